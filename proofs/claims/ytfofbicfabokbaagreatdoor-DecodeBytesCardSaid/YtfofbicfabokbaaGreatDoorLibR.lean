/- field: sizes, bits, signs. -/
import Derived.Test.YtfofbicfabokbaaGreatDoorC5Dec
import Derived.Test.YtfofbicfabokbaaGreatDoorLibA
import Derived.Test.YtfofbicfabokbaaGreatDoorLibI
import Derived.Test.YtfofbicfabokbaaGreatDoorC0Code
set_option linter.unusedVariables false
set_option linter.unusedSimpArgs false
set_option maxRecDepth 100000
set_option maxHeartbeats 2000000
set_option maxHeartbeats 4000000
noncomputable section
namespace Go.Proofs.YtfofbicfabokbaaGreatDoor.code
open Go.Ab
def QbC (H:Qa) (v:Value) (bs:List Int):Prop:=∃a cap,v=.slice a bs.length cap∧(0<bs.length->∃b o e ro cs,a=some ⟨b,o,none⟩∧H.get b=some (.cells cs e ro)∧∀j,j<bs.length->cs[o+j]? = some (.int .u8 (bs.getD j 0)))
theorem QbC.ext {H H':Qa} {v:Value} {bs:List Int} (hw:H.Wf) (he:Ext H H') (h:QbC H v bs):QbC H' v bs:=by
 obtain⟨a,cap,rfl,h1⟩:=h;refine⟨a,cap,rfl,λhn=>?_⟩;obtain⟨b,o,e,ro,cs,rfl,hb,hc⟩:=h1 hn;exact⟨b,o,e,ro,cs,rfl,by rw[he.get b (hw.lt hb)];exact hb,hc⟩
def QiO (n:Int):Bool:=(n==1)||(n==2)||(n==4)||(n==8)
theorem QrQ (n:Int) (H:Qa):Qh prog QgV [.int .i64 n] H λu H'=>u=.bool (QiO n)∧H'=H:=by
 refine QqD λhw=>?_;simp(disch:=(first | omega | (simp only[hnP];try omega))) only[QkM,Qk,simprocAttr,Qjq]
 repeat' (first
   | (refine Qo (λh=>?_) (λh=>?_)<;>(try simp only[Lr,Lu]at h)<;>simp(disch:=(first | omega | (simp only[hnP];try omega))) only[Qk,simprocAttr,Qjq,h])
   | fail)
 all_goals refine .mk (Lb _) ⟨?_,rfl⟩
 all_goals (simp only[QiO];simp_all)
def QcM (n:Int):Bool:=decide (1<=n)&&decide (n<=64)
theorem Qpq (n:Int) (H:Qa):Qh prog Qeo [.int .i64 n] H λu H'=>u=.bool (QcM n)∧H'=H:=by
 refine Qn0 λhw=>?_;simp(disch:=(first | omega | (simp only[hnP];try omega))) only[QhI,Qk,simprocAttr,QgI]
 repeat' (first
   | (refine Qo (λh=>?_) (λh=>?_)<;>(try simp only[Lr,Lu]at h)<;>simp(disch:=(first | omega | (simp only[hnP];try omega))) only[Qk,simprocAttr,QgI,h])
   | fail)
 all_goals refine .mk (Lb _) ⟨?_,rfl⟩
 all_goals (simp only[QcM];simp_all<;>omega)
def Qnb (n bits:Int):Int:=if QcM bits=false then 0 else(IntKind.i64.wrap (IntKind.u64.wrap (IntKind.u64.wrap n * 2 ^ (min (64 - bits).toNat 64)))).fdiv (2 ^ (min (64 - bits).toNat 64))
theorem Qtj (n bits:Int) (H:Qa):Qh prog Qix [.int .i64 n,.int .i64 bits] H λu H'=>u=.int .i64 (Qnb n bits)∧H'=H:=by
 refine QrN λhw=>?_;simp only[QlP,Qb,simprocAttr];refine(Qpq bits H).thenW ?_;rintro _ H _ hw ⟨rfl,rfl⟩;simp only[Qb,simprocAttr];cases q:QcM bits with
 | false=>
  simp only[Qb,simprocAttr,QkN];exact .mk (Lb _) ⟨by rw[Qnb,Lc q],rfl⟩
 | true=>
  have hb:1<=bits∧bits<=64:=by simpa[QcM] using q
  have e:IntKind.i64.wrap (64 - bits)=64 - bits:=w64 (by unfold I64;omega);have h0:0<=64 - bits:=by omega
  have b1:IntKind.u64.bits=64:=rfl;have b2:IntKind.i64.bits=64:=rfl;simp only[Qb,simprocAttr,e,h0,b1,b2,QkN];exact .mk (Lb _) ⟨by rw[Qnb,Le (by simp[q])],rfl⟩
def QuZ (bs:List Int) (p:Nat):Nat->Int
 | 0=>0
 | i+1=>IntKind.u64.wrap (BitVec.ofInt IntKind.u64.bits (QuZ bs p i) ||| BitVec.ofInt IntKind.u64.bits (IntKind.u64.wrap (IntKind.u64.wrap (bs.getD (p+i) 0) * 2 ^ (min (8 * i) 64)))).toNat
def Yz (bs:List Int) (p sz:Int) (sg:Bool):Int×Int:=
 if QiO sz=false then(0,2) else if(decide (p<0)||decide ((bs.length:Int)<p))=true then(0,5) else if(bs.length:Int) - p<sz then(0,9)
 else if sg=true then(Qnb (IntKind.i64.wrap (QuZ bs p.toNat sz.toNat)) (8 * sz),0) else(IntKind.i64.wrap (QuZ bs p.toNat sz.toNat),0)
theorem QgL (v:Value) (bs:List Int) (p sz:Int) (sg:Bool) (H:Qa) (hb:QbC H v bs) (hl:bs.length<=1000000) (hp:I64 p):Qh prog QbK [v,.int .i64 p,.int .i64 sz,.bool sg] H λu H'=>u=.tuple #[.int .i64 (Yz bs p sz sg).1,.int .i64 (Yz bs p sz sg).2]∧H'=H:=by
 refine Qtg λhw=>?_;obtain⟨a,cap,rfl,hb⟩:=hb;simp only[Qm8,Qb,simprocAttr];refine(QrQ sz H).thenW ?_;rintro _ H _ hw ⟨rfl,rfl⟩;simp only[Qb,simprocAttr];cases q:QiO sz with
 | false=>
  simp only[Qb,simprocAttr,Gg];exact .mk (Lb _) ⟨by rw[Yz,Lc q],rfl⟩
 | true=>
  have hs:sz=1∨sz=2∨sz=4∨sz=8:=by
   simp only[QiO,Nw,L0]at q;omega
  have h1:Yz bs p sz sg=if(decide (p<0)||decide ((bs.length:Int)<p))=true then(0,5) else if(bs.length:Int) - p<sz then(0,9)
    else if sg=true then(Qnb (IntKind.i64.wrap (QuZ bs p.toNat sz.toNat)) (8 * sz),0) else(IntKind.i64.wrap (QuZ bs p.toNat sz.toNat),0):=by rw[Yz,Le (by simp[q])]
  rw[h1];clear h1;simp only[QkJ,Qb,simprocAttr]
  by_cases h0:p<0
  ·simp only[h0,Nf,Qb,simprocAttr,Gg];exact .mk (Lb _) ⟨by simp,rfl⟩
  by_cases h1:(bs.length:Int)<p
  ·simp only[h0,h1,Nf,NE,Qb,simprocAttr,Gg];exact .mk (Lb _) ⟨by simp,rfl⟩
  have e1:IntKind.i64.wrap ((bs.length:Int) - p)=(bs.length:Int) - p:=w64 (by unfold I64;omega);simp only[h0,h1,Nf,NE,QkI,Qb,simprocAttr,e1]
  by_cases h2:(bs.length:Int) - p<sz
  ·simp only[h2,Nf,Qb,simprocAttr,Gg];exact .mk (Lb _) ⟨by simp,rfl⟩
  obtain⟨m,rfl⟩:∃m:Nat,p=m:=⟨p.toNat,by omega⟩;obtain⟨z,rfl⟩:∃z:Nat,sz=z:=⟨sz.toNat,by omega⟩;have b1:IntKind.u64.bits=64:=rfl;simp only[h2,NE,QkH,Qb,simprocAttr,Bool.or_self,LV,LG];refine QE (λk A' H'=>∃i:Nat,i<=z∧k=z - i∧H'=H∧A' 0=.slice a bs.length cap∧A' 1=.int .i64 m∧A' 2=.int .i64 z∧A' 3=.bool sg∧A' 10=.int .u64 (QuZ bs m i)∧A' 29=.int .i64 z∧A' 30=.int .i64 i) z ?_ ?_
  ·refine⟨0,L7 _,by omega,rfl,?_,?_,?_,?_,?_,?_,?_⟩
   all_goals simp only[Qg,simprocAttr]
   all_goals rfl
  ·rintro k A' H' ⟨i,hi,rfl,rfl,r0,r1,r2,r3,r10,r29,r30⟩;simp only[QkG,Qb,simprocAttr,r29,r30];refine Qf (λh3=>?_) (λh3=>?_)
   ·have h3:i<z:=by have:=Lg h3;omega
    obtain⟨b,o,e,ro,cs,rfl,hg,hc⟩:=hb (by omega);have d1:IntKind.i64.wrap ((m:Int)+(i:Int))=((m+i:Nat):Int):=by rw[w64 (by unfold I64;omega)];omega
    have d2:(0:Int)<=((m+i:Nat):Int)∧((m+i:Nat):Int)<bs.length:=by omega
    have d3:(((m+i:Nat):Int)).toNat=m+i:=by omega
    have d4:IntKind.i64.wrap (8 * (i:Int))=((8 * i:Nat):Int):=by rw[w64 (by unfold I64;omega)];omega
    have d5:(0:Int)<=((8 * i:Nat):Int):=by omega
    have d6:(((8 * i:Nat):Int)).toNat=8 * i:=by omega
    have ei:IntKind.i64.wrap ((i:Int)+1)=((i+1:Nat):Int):=by rw[w64 (by unfold I64;omega)];omega
    have g1:=hc (m+i) (by omega);simp only[QkF,Qb,simprocAttr,r0,r1,r10,r30,d1,d2,d3,d4,d5,d6,hg,g1,ei,b1];refine⟨z - (i+1),by omega,i+1,by omega,rfl,rfl,?_,?_,?_,?_,?_,?_,?_⟩
    all_goals simp only[Qg,simprocAttr,r0,r1,r2,r3,r29]
    rfl
   ·have h3:i=z:=by have:=Ll h3;omega
    subst h3;simp only[QkE,Qb,simprocAttr,r3,r10];cases sg with
    | false=>
     simp only[Qb,simprocAttr,r10,Gg];exact .mk (Lb _) ⟨by simp,rfl⟩
    | true=>
     have d4:IntKind.i64.wrap (8 * (i:Int))=8 * (i:Int):=w64 (by unfold I64;omega);simp only[Qb,simprocAttr,r2,r10,d4];refine(Qtj _ _ _).thenW ?_;rintro _ H _ hw ⟨rfl,rfl⟩;simp only[Qb,simprocAttr,Gg];exact .mk (Lb _) ⟨by simp,rfl⟩
def YM (a b:Int):Int:=IntKind.i64.wrap (BitVec.ofInt IntKind.i64.bits a &&& BitVec.ofInt IntKind.i64.bits b).toNat
def QbE (a:Int) (n:Nat):Int:=a.fdiv (2 ^ (min n 64))
theorem QDn (a:Int) (m:Nat) (hm:m<1000):0<=YM a m∧YM a m<=m:=by
 have b2:IntKind.i64.bits=64:=rfl;unfold YM;rw[b2];have h1:(BitVec.ofInt 64 a &&& BitVec.ofInt 64 (m:Int)).toNat<=m:=by
  rw[FK];refine N8 Nat.and_le_right ?_;rw[B7];omega
 rw[w64 (by unfold I64;omega)];omega
def QY (n:Int):Int×Int×Int:=(YM (QbE n 6) 3,YM (QbE n 3) 7,YM n 7)
theorem Ql2 (n:Int) (H:Qa):Qh prog QdN [.int .i64 n] H λu H'=>u=.tuple #[.int .i64 (QY n).1,.int .i64 (QY n).2.1,.int .i64 (QY n).2.2]∧H'=H:=by
 refine QqB λhw=>?_;have h6:(0:Int)<=6:=by omega
 have h3:(0:Int)<=3:=by omega
 simp only[QkK,Qb,simprocAttr,h6,h3,Qpo];exact .mk (Lb _) ⟨rfl,rfl⟩
def Ko (md:Int) (m:Mm):Int:=if(md==1)=true then 1 else if(md==2||!(m.b.c==5))=true then 4 else 0
theorem QrW (md:Int) (m:Mm) (H:Qa):Qh prog QdO [.int .i64 md,.agg m.cells.toArray] H λu H'=>u=.int .i64 (Ko md m)∧∃k,H'=H.up k:=by
 refine QqC λhw=>?_;have hs:Ko md m=if(md==1)=true then 1 else if(md==2||!(m.b.c==5))=true then 4 else 0:=rfl
 rw[hs];clear hs;obtain⟨⟨bc,bn⟩,⟨ic,nn⟩,sc,d,sz⟩:=m;simp(disch:=(first | omega | (simp only[hnP];try omega))) only[Mm.cells,QkL,Qk,simprocAttr,Qeu]
 repeat' (first
   | (refine Qo (λh=>?_) (λh=>?_)<;>(try simp only[Lr,Lu]at h)<;>simp(disch:=(first | omega | (simp only[hnP];try omega))) only[Qk,simprocAttr,Qeu,h])
   | (refine Qf (λh=>?_) (λh=>?_)<;>(try simp only[Lr,Lu]at h)<;>simp(disch:=(first | omega | (simp only[hnP];try omega))) only[Qk,simprocAttr,Qeu,h])
   | fail)
 all_goals refine .ext hw ((Ext.refl H).push _) ⟨?_,_,rfl⟩
 all_goals simp_all
def pl8 (a b:Int):Int:=IntKind.i64.wrap (IntKind.i64.wrap (8 * a)+b)
def QwQ (hi ix x:Int):Mm×Int:=if(!(ix==4)||x==1)=true then({Wh with i:=⟨5,pl8 x ix⟩,sc:=IntKind.i64.wrap (1 * 2 ^ (min hi.toNat 64))},0) else if(!(hi==0))=true then(Wh,4) else(Wh,0)
def QDo (m:Mm) (ba md bb:Int):Mm×Int:=if(!(ba==5)||!(md==0))=true then({m with b:=⟨5,pl8 bb ba⟩},0) else if(bb==1)=true then(Wh,4) else(m,0)
def QqI (sib md x bb:Int):Mm×Int:=if((QwQ (QY sib).1 (QY sib).2.1 x).2==0)=true then QDo (QwQ (QY sib).1 (QY sib).2.1 x).1 (QY sib).2.2 md bb else(Wh,4)
theorem Qn3 (sib md x bb:Int) (H:Qa):Qh prog QdC [.int .i64 sib,.int .i64 md,.int .i64 x,.int .i64 bb] H λu H'=>u=.tuple #[.agg (QqI sib md x bb).1.cells.toArray,.int .i64 (QqI sib md x bb).2]∧∃k,H'=H.up k:=by
 refine Qm9 λhw=>?_;have q:=Ql2 sib;have h0:0<=(QY sib).1:=(QDn _ 3 (by omega)).1;have hs:QqI sib md x bb=if((QwQ (QY sib).1 (QY sib).2.1 x).2==0)=true then QDo (QwQ (QY sib).1 (QY sib).2.1 x).1 (QY sib).2.2 md bb else(Wh,4):=rfl
 rw[hs];clear hs;generalize QY sib=s at *;obtain⟨hi,ix,ba⟩:=s;simp only at h0 q ⊢;have b2:IntKind.i64.bits=64:=rfl;simp(disch:=(first | omega | (simp only[hnP];try omega))) only[QgH,Qk,simprocAttr,Ki]
 refine(q _).thenW ?_;rintro _ _ hn hw2 ⟨rfl,rfl⟩;simp(disch:=(first | omega | (simp only[hnP];try omega))) only[QeW,QeX,QeY,QeZ,Qk,simprocAttr,Ki,h0,b2]
 repeat' (first
   | (refine Qo (λh=>?_) (λh=>?_)<;>(try simp only[Lr,Lu]at h)<;>simp(disch:=(first | omega | (simp only[hnP];try omega))) only[Qk,simprocAttr,Ki,h,h0,b2])
   | (refine Qf (λh=>?_) (λh=>?_)<;>(try simp only[Lr,Lu]at h)<;>simp(disch:=(first | omega | (simp only[hnP];try omega))) only[Qk,simprocAttr,Ki,h,h0,b2])
   | fail)
 all_goals refine .ext hw ?_ ⟨?_,_,rfl⟩
 all_goals try (repeat' (first | exact Ext.refl _ | refine Ext.push ?_ _ | refine Ext.up ?_ (by simp only[Ql,Q4,Wm];omega) | refine Ext.set ?_ (by omega) _))
 all_goals (simp_all [QwQ,QDo,Mm.cells,Wh,pl8])
structure Sn where
 fld:Int
 reg:Int
 m:Mm
 ends:Int
def Sn.cells (s:Sn):List Value:=[.int .i64 s.fld,.int .i64 s.reg,.int .i64 s.m.b.c,.int .i64 s.m.b.n,.int .i64 s.m.i.c,.int .i64 s.m.i.n,.int .i64 s.m.sc,.int .i64 s.m.d,.int .i64 s.m.sz,.int .i64 s.ends]
def Zg:Sn:=⟨0,0,Wh,0⟩
def Qnh (mid p:Int) (m:Mm):Sn×Int:=if((Y5 m).2==0)=true then(⟨mid,-1,(Y5 m).1,p⟩,0) else(Zg,4)
def QdH (bs:List Int) (p md mid:Int) (m:Mm):Sn×Int:=
 if(Ko md m==0)=true then Qnh mid p m
 else if((Yz bs p (Ko md m) true).2==0)=true then Qnh mid (IntKind.i64.wrap (p+Ko md m)) {m with d:=(Yz bs p (Ko md m) true).1} else(Zg,(Yz bs p (Ko md m) true).2)
def QqJ (bs:List Int) (p md mid x bb:Int):Sn×Int:=
 if((Yz bs p 1 false).2==0)=true then
  (if((QqI (Yz bs p 1 false).1 md x bb).2==0)=true then QdH bs (IntKind.i64.wrap (p+1)) md mid (QqI (Yz bs p 1 false).1 md x bb).1 else(Zg,(QqI (Yz bs p 1 false).1 md x bb).2))
 else(Zg,(Yz bs p 1 false).2)
def Qn4 (bs:List Int) (p md mid rm x bb:Int):Sn×Int:=
 if(x==1&&(md==3||!(rm==4)))=true then(Zg,4)
 else if(md==3)=true then(⟨mid,pl8 bb rm,Wh,p⟩,0)
 else if(rm==4)=true then QqJ bs p md mid x bb
 else if(md==0&&rm==5)=true then(if(bb==1)=true then(Zg,4) else QdH bs p md mid {Wh with b:=⟨8,0⟩})
 else QdH bs p md mid {Wh with b:=⟨5,pl8 bb rm⟩}
def rdF (bs:List Int) (p x bb:Int):Sn×Int:=
 if(decide (p<0)||decide ((bs.length:Int)<p)||decide (x<0)||decide (1<x)||decide (bb<0)||decide (1<bb))=true then(Zg,5)
 else if((Yz bs p 1 false).2==0)=true then Qn4 bs (IntKind.i64.wrap (p+1)) (QY (Yz bs p 1 false).1).1 (QY (Yz bs p 1 false).1).2.1 (QY (Yz bs p 1 false).1).2.2 x bb
 else(Zg,(Yz bs p 1 false).2)
theorem Kq (a b:PC) (ks:Kp) (k:Env->Qa->Prop):Qn prog (.seq a b) ks k=Qn prog a ks (Qn prog b ks k):=by funext A H;exact K9 a b ks k A H
section
variable (H:Qa) (r:Sn×Int)
abbrev QwR:Value->Qa->Prop:=λu H'=>u=.tuple #[.agg r.1.cells.toArray,.int .i64 r.2]∧∃k,H'=H.up k
abbrev KRd:Env->Qa->Prop:=Rt prog Qtf H (QwR H r)
structure RdF (M:Nat) (m:Mm) (mid p:Int) (A:Env) (H':Qa):Prop where
 hx:Ext H H'
 r1:A 1=.int .i64 p
 r8:A 8=.pointer (some ⟨H.next,0,none⟩)
 r13:A 13=.int .i64 mid
 r15:A 15=.pointer (some ⟨M,0,none⟩)
 gS:H'.get H.next=some (.cells [.int .i64 0,.int .i64 0,.int .i64 0,.int .i64 0,.int .i64 0,.int .i64 0,.int .i64 0,.int .i64 0,.int .i64 0,.int .i64 0] QM false)
 gM:H'.get M=some (.cells m.cells Qq false)
 ne:¬H.next=M
 lo:H.next<=M
 hi:M<H'.next
theorem QFz (hw:H.Wf) (M:Nat) (m:Mm) (mid p:Int) (A:Env) (H':Qa) (e:Nat->Env->Qa->Prop) (k:Env->Qa->Prop) (f:RdF H M m mid p A H') (hr:r=Qnh mid p m):Qn prog KF ⟨KRd H r,e⟩ k A H':=by
 obtain⟨hx,r1,r8,r13,r15,gS,gM,ne,lo,hi⟩:=f;have q:=QoZ m;have hr':r=if((Y5 m).2==0)=true then(⟨mid,-1,(Y5 m).1,p⟩,0) else(Zg,4):=hr
 rw[hr'];clear hr hr';generalize Y5 m=c at *;obtain⟨c,ce⟩:=c;have hxn:=hx.next;have ne2:¬M=H.next:=λh=>ne h.symm;obtain⟨⟨bc,bn⟩,⟨ic,nn⟩,sc,d,sz⟩:=c;obtain⟨⟨mbc,mbn⟩,⟨mic,mnn⟩,msc,md',msz⟩:=m;simp only[Mm.cells]at q gM;simp only[KF,Qb,simprocAttr,r1,r8,r13,r15,gS,gM];refine(q _).thenW ?_;rintro _ _ hn hw2 ⟨rfl,k2,rfl⟩;simp only[Wm]at hn;have hx2:=hx.up hn;simp only[Qb,simprocAttr,r15,gS,gM,Mm.cells,ne,ne2];cases q1:ce==0
 all_goals simp only[Qb,simprocAttr,r1,r8,r13,r15,gS,gM,ne,ne2,WY]
 ·refine .ext hw ((hx2.set lo _).set (Lb _) _) ⟨?_,_,rfl⟩;simp[Sn.cells,Zg,Wh]
 ·refine .ext hw ((hx2.set lo _).set (Lb _) _) ⟨?_,_,rfl⟩;simp[Sn.cells]
theorem Qx7 (hw:H.Wf) (v:Value) (bs:List Int) (hb:QbC H v bs) (hl:bs.length<=1000000) (M:Nat) (m:Mm) (md mid p:Int) (hp:I64 p) (A:Env) (H':Qa) (e:Nat->Env->Qa->Prop) (k:Env->Qa->Prop) (r0:A 0=v) (r12:A 12=.int .i64 md) (f:RdF H M m mid p A H') (hr:r=QdH bs p md mid m):Qn prog KG ⟨KRd H r,e⟩ k A H':=by
 have fend:=λm p A H'=>QFz H r hw M m mid p A H' e k;obtain⟨hx,r1,r8,r13,r15,gS,gM,ne,lo,hi⟩:=f;have qw:=QrW md m;have qg:=λH' (hx:Ext H H') sz=>QgL v bs p sz true H' (hb.ext hw hx) hl hp;have hr':r=if(Ko md m==0)=true then Qnh mid p m
  else if((Yz bs p (Ko md m) true).2==0)=true then Qnh mid (IntKind.i64.wrap (p+Ko md m)) {m with d:=(Yz bs p (Ko md m) true).1} else(Zg,(Yz bs p (Ko md m) true).2):=hr
 clear hr;generalize Ko md m=wd at *;have ne2:¬M=H.next:=λh=>ne h.symm;obtain⟨⟨mbc,mbn⟩,⟨mic,mnn⟩,msc,md',msz⟩:=m;simp only[Mm.cells]at qw gM;have e1:KG=.seq (.seq (.ops [⟨some 129,.mv (t 12),none,false⟩,⟨some 130,.ld true 7 (t 15),none,false⟩,⟨some 131,.call QdO [(t 129),(t 130)],none,false⟩,⟨some 18,.mv (t 131),none,false⟩]) (.seq (.ops [⟨some 132,.mv (t 18),none,false⟩,⟨some 133,.bin .neq (t 132) (.const (.int .i64 0)),none,false⟩]) (.cond (t 133) Qep .skip))) KF:=rfl;rw[e1,K9];generalize hT:Qn prog KF ⟨KRd H r,e⟩ k=T;simp only[Qb,simprocAttr,r12,r15,gM];refine(qw _).thenW ?_;rintro _ _ hn hw2 ⟨rfl,k2,rfl⟩;simp only[Wm]at hn;have hx2:=hx.up hn;have hi2:M<(H'.up k2).next:=by simp only[Wm];omega
 simp only[Qb,simprocAttr];cases q1:wd==0 with
 | true=>
  rw[Lc q1]at hr';simp only[Qb,simprocAttr];rw[<- hT];refine fend ⟨⟨mbc,mbn⟩,⟨mic,mnn⟩,msc,md',msz⟩ p _ _ ⟨hx2,by simp only[Qg,simprocAttr,r1],by simp only[Qg,simprocAttr,r8],by simp only[Qg,simprocAttr,r13],by simp only[Qg,simprocAttr,r15],by rw[W3];exact gS,by rw[W3];exact gM,ne,lo,hi2⟩ hr'
 | false=>
  rw[Le (by rw[q1];decide)]at hr';simp only[Qep,Qb,simprocAttr,r0,r1];refine(qg _ hx2 wd).thenW ?_;rintro _ H3 hn3 hw3 ⟨rfl,rfl⟩;generalize Yz bs p wd true=g at *;obtain⟨g,ge⟩:=g;simp only at hr';have gM3:(H'.up k2).get M=some (.cells [.int .i64 mbc,.int .i64 mbn,.int .i64 mic,.int .i64 mnn,.int .i64 msc,.int .i64 md',.int .i64 msz] Qq false):=by rw[W3];exact gM
  have gS3:(H'.up k2).get H.next=_:=(W3 _ _ _).trans gS;generalize H'.up k2=H3 at *;simp only[Qb,simprocAttr,r15,gM3];cases q2:ge==0 with
  | true=>
   rw[Lc q2]at hr';simp only[Qb,simprocAttr,r1];rw[<- hT];refine fend ⟨⟨mbc,mbn⟩,⟨mic,mnn⟩,msc,g,msz⟩ _ _ _ ⟨hx2.set lo _,by simp only[Qg,simprocAttr],by simp only[Qg,simprocAttr,r8],by simp only[Qg,simprocAttr,r13],by simp only[Qg,simprocAttr,r15],by rw[Qm,Le ne];exact gS3,by rw[Qm,Lc rfl];rfl,ne,lo,hi2⟩ hr'
  | false=>
   rw[Le (by rw[q2];decide)]at hr';simp only[Qb,simprocAttr,r8,gS3,ne,WY];refine .ext hw ((hx2.set lo _).set (Lb _) _) ⟨?_,_,rfl⟩;rw[hr'];simp[Sn.cells,Zg,Wh]
theorem QqK (n:Int):I64 (IntKind.i64.wrap n):=by
 rw[NU];unfold I64;omega
abbrev z10:List Value:=[.int .i64 0,.int .i64 0,.int .i64 0,.int .i64 0,.int .i64 0,.int .i64 0,.int .i64 0,.int .i64 0,.int .i64 0,.int .i64 0]
theorem Qn5 (hw:H.Wf) {H':Qa} (hx:Ext H H') (b:Blk) {x:Int} (hr:r=(Zg,x)):Ret H (QwR H r) (.tuple #[.agg #[.int .i64 0,.int .i64 0,.int .i64 0,.int .i64 0,.int .i64 0,.int .i64 0,.int .i64 0,.int .i64 0,.int .i64 0,.int .i64 0],.int .i64 x]) (H'.set H.next b):=by
 refine .ext hw (hx.set (Lb _) _) ⟨?_,_,rfl⟩;rw[hr];simp[Sn.cells,Zg,Wh]
theorem QFA (hw:H.Wf) (v:Value) (bs:List Int) (hb:QbC H v bs) (hl:bs.length<=1000000) (M:Nat) (md mid p x bb:Int) (hp:I64 p) (A:Env) (H':Qa) (e:Nat->Env->Qa->Prop) (k:Env->Qa->Prop)
  (r0:A 0=v) (r2:A 2=.int .i64 x) (r3:A 3=.int .i64 bb) (r12:A 12=.int .i64 md) (f:RdF H M Wh mid p A H') (hr:r=QqJ bs p md mid x bb)
  (hT:∀ (m:Mm) (p:Int) (A2:Env) (H2:Qa),I64 p->A2 0=v->A2 12=.int .i64 md->RdF H M m mid p A2 H2->r=QdH bs p md mid m->k A2 H2):Qn prog Qeq ⟨KRd H r,e⟩ k A H':=by
 obtain⟨hx,r1,r8,r13,r15,gS,gM,ne,lo,hi⟩:=f;have qg:=QgL v bs p 1 false H' (hb.ext hw hx) hl hp;have hr':r=if((Yz bs p 1 false).2==0)=true then
   (if((QqI (Yz bs p 1 false).1 md x bb).2==0)=true then QdH bs (IntKind.i64.wrap (p+1)) md mid (QqI (Yz bs p 1 false).1 md x bb).1 else(Zg,(QqI (Yz bs p 1 false).1 md x bb).2))
  else(Zg,(Yz bs p 1 false).2):=hr
 clear hr;simp only[Qeq,Qb,simprocAttr,r0,r1];refine qg.thenW ?_;rintro _ H' hn hw2 ⟨rfl,rfl⟩;generalize Yz bs p 1 false=g at *;obtain⟨g,ge⟩:=g;simp only at hr';simp only[Qb,simprocAttr];cases q1:ge==0 with
 | false=>
  rw[Le (by rw[q1];decide)]at hr';simp only[Qb,simprocAttr,r8,gS,WY];exact Qn5 H r hw hx _ hr'
 | true=>
  rw[Lc q1]at hr';have qs:=λH=>Qn3 g md x bb H;generalize QqI g md x bb=s at *;obtain⟨s,se⟩:=s;simp only at hr';obtain⟨⟨sbc,sbn⟩,⟨sic,snn⟩,ssc,sd,ssz⟩:=s;simp only[Mm.cells,Wh]at qs gM;simp only[Qji,Qb,simprocAttr,r1,r2,r3,r12];refine(qs _).thenW ?_;rintro _ _ hn3 hw3 ⟨rfl,k3,rfl⟩;simp only[Wm]at hn3;have hx3:=hx.up hn3;have gM3:(H'.up k3).get M=_:=(W3 _ _ _).trans gM;have gS3:(H'.up k3).get H.next=_:=(W3 _ _ _).trans gS;have hi3:M<(H'.up k3).next:=by simp only[Wm];omega
  generalize H'.up k3=H3 at *;simp only[Qb,simprocAttr,r15,gM3];cases q2:se==0 with
  | false=>
   rw[Le (by rw[q2];decide)]at hr';simp only[Qb,simprocAttr,r8,gS3,ne,WY];exact Qn5 H r hw (hx3.set lo _) _ hr'
  | true=>
   rw[Lc q2]at hr';simp only[Qb,simprocAttr];refine hT ⟨⟨sbc,sbn⟩,⟨sic,snn⟩,ssc,sd,ssz⟩ _ _ _ (QqK _) (by simp only[Qg,simprocAttr,r0]) (by simp only[Qg,simprocAttr,r12]) ⟨hx3.set lo _,by simp only[Qg,simprocAttr],by simp only[Qg,simprocAttr,r8],by simp only[Qg,simprocAttr,r13],by simp only[Qg,simprocAttr,r15],by rw[Qm,Le ne];exact gS3,by rw[Qm,Lc rfl];rfl,ne,lo,hi3⟩ hr'
theorem QDp (hw:H.Wf) (v:Value) (bs:List Int) (hb:QbC H v bs) (hl:bs.length<=1000000) (h p x bb:Int) (hp:I64 p) (A:Env) (H':Qa) (e:Nat->Env->Qa->Prop) (k:Env->Qa->Prop)
  (r0:A 0=v) (r1:A 1=.int .i64 p) (r2:A 2=.int .i64 x) (r3:A 3=.int .i64 bb) (r8:A 8=.pointer (some ⟨H.next,0,none⟩)) (r10:A 10=.int .i64 h) (hx:Ext H H') (hn:H'.next=H.next+1) (gS:H'.get H.next=some (.cells z10 QM false))
  (hr:r=Qn4 bs (IntKind.i64.wrap (p+1)) (QY h).1 (QY h).2.1 (QY h).2.2 x bb):Qn prog QdD ⟨KRd H r,e⟩ k A H':=by
 have q:=Ql2 h H';generalize QY h=s at *;obtain⟨md,mid,rm⟩:=s;simp only at q hr;have hr':r=if(x==1&&(md==3||!(rm==4)))=true then(Zg,4)
  else if(md==3)=true then(⟨mid,pl8 bb rm,Wh,IntKind.i64.wrap (p+1)⟩,0)
  else if(rm==4)=true then QqJ bs (IntKind.i64.wrap (p+1)) md mid x bb
  else if(md==0&&rm==5)=true then(if(bb==1)=true then(Zg,4) else QdH bs (IntKind.i64.wrap (p+1)) md mid {Wh with b:=⟨8,0⟩})
  else QdH bs (IntKind.i64.wrap (p+1)) md mid {Wh with b:=⟨5,pl8 bb rm⟩}:=hr
 clear hr;have hp1:=QqK (p+1);generalize hpe:IntKind.i64.wrap (p+1)=p1 at *;have ftail:=λm A2 H2 (ha0:A2 0=v) ha12 hf hr=>Qx7 H r hw v bs hb hl (H.next+1) m md mid p1 hp1 A2 H2 e k ha0 ha12 hf hr;have fsib:=λA2 H2 e2 k2 (ha0:A2 0=v) ha2 ha3 ha12 hf hr hT=>QFA H r hw v bs hb hl (H.next+1) md mid p1 x bb hp1 A2 H2 e2 k2 ha0 ha2 ha3 ha12 hf hr hT;have ftail2:=λm p A2 H2 hp (ha0:A2 0=v) ha12 hf hr=>Qx7 H r hw v bs hb hl (H.next+1) m md mid p hp A2 H2 e k ha0 ha12 hf hr;have e9:Qes=.seq (.ops [⟨some 73,.build [.int .i64 0,.int .i64 0,.int .i64 0,.int .i64 0,.int .i64 0,.int .i64 0,.int .i64 0] [],none,false⟩,⟨some 15,.alloc Qq [.int .i64 0,.int .i64 0,.int .i64 0,.int .i64 0,.int .i64 0,.int .i64 0,.int .i64 0],none,false⟩,⟨none,.st 7 (t 15) (t 73),none,false⟩]) (.seq (.block 0 (.seq (.ops [⟨some 81,.mv (t 12),none,false⟩,⟨some 82,.bin .eql (t 81) (.const (.int .i64 3)),none,false⟩,⟨some 80,.mv (t 82),none,false⟩]) (.cond (t 80) (.seq (.ops [⟨some 83,.mv (t 13),none,false⟩,⟨some 84,.mv (t 3),none,false⟩,⟨some 85,.bin .mul (.const (.int .i64 8)) (t 84),none,false⟩,⟨some 86,.mv (t 14),none,false⟩,⟨some 87,.bin .add (t 85) (t 86),none,false⟩,⟨some 88,.mv (t 1),none,false⟩,⟨some 89,.build [.int .i64 0,.int .i64 0,.int .i64 0,.int .i64 0,.int .i64 0,.int .i64 0,.int .i64 0,.int .i64 0,.int .i64 0,.int .i64 0] [(0,1,(t 83)),(1,1,(t 87)),(9,1,(t 88))],none,false⟩,⟨none,.st 10 (t 8) (t 89),none,false⟩,⟨some 9,.mv (.const (.int .i64 0)),none,false⟩]) .ret) Qer))) KG):=rfl;have ne:¬H.next=H.next+1:=by omega
 have ne2:¬H.next+1=H.next:=by omega
 simp only[QdD,Qb,simprocAttr,r1,r10,hpe];refine q.thenW ?_;rintro _ H' _ hw' ⟨rfl,rfl⟩;simp only[Qb,simprocAttr,r2];have go:∀A2:Env,A2 0=v->A2 1=.int .i64 p1->A2 2=.int .i64 x->A2 3=.int .i64 bb->A2 8=.pointer (some ⟨H.next,0,none⟩)->A2 12=.int .i64 md->A2 13=.int .i64 mid->A2 14=.int .i64 rm->(x==1&&(md==3||!(rm==4)))=false->Qn prog Qes ⟨KRd H r,e⟩ k A2 H':=by
  intro A2 a0 a1 a2 a3 a8 a12 a13 a14 hc;rw[Le (by rw[hc];decide)]at hr';rw[e9,Kq,Kq];generalize hT:Qn prog KG ⟨KRd H r,e⟩ k=T;simp only[Qb,simprocAttr,hn,a12];have hx2:Ext H ((H'.push (.cells [.int .i64 0,.int .i64 0,.int .i64 0,.int .i64 0,.int .i64 0,.int .i64 0,.int .i64 0] Qq false)).set (H.next+1) (.cells [.int .i64 0,.int .i64 0,.int .i64 0,.int .i64 0,.int .i64 0,.int .i64 0,.int .i64 0] Qq false)):=(hx.push _).set (by omega) _;have gS2:((H'.push (.cells [.int .i64 0,.int .i64 0,.int .i64 0,.int .i64 0,.int .i64 0,.int .i64 0,.int .i64 0] Qq false)).set (H.next+1) (.cells [.int .i64 0,.int .i64 0,.int .i64 0,.int .i64 0,.int .i64 0,.int .i64 0,.int .i64 0] Qq false)).get H.next=some (.cells z10 QM false):=by rw[Qm,Le ne,Qi,Le (by omega)];exact gS
  have gM2:((H'.push (.cells [.int .i64 0,.int .i64 0,.int .i64 0,.int .i64 0,.int .i64 0,.int .i64 0,.int .i64 0] Qq false)).set (H.next+1) (.cells [.int .i64 0,.int .i64 0,.int .i64 0,.int .i64 0,.int .i64 0,.int .i64 0,.int .i64 0] Qq false)).get (H.next+1)=some (.cells [.int .i64 0,.int .i64 0,.int .i64 0,.int .i64 0,.int .i64 0,.int .i64 0,.int .i64 0] Qq false):=by rw[Qm,Lc rfl]
  have hi2:H.next+1<((H'.push (.cells [.int .i64 0,.int .i64 0,.int .i64 0,.int .i64 0,.int .i64 0,.int .i64 0,.int .i64 0] Qq false)).set (H.next+1) (.cells [.int .i64 0,.int .i64 0,.int .i64 0,.int .i64 0,.int .i64 0,.int .i64 0,.int .i64 0] Qq false)).next:=by simp only[Q4,Ql];omega
  generalize (H'.push (.cells [.int .i64 0,.int .i64 0,.int .i64 0,.int .i64 0,.int .i64 0,.int .i64 0,.int .i64 0] Qq false)).set (H.next+1) (.cells [.int .i64 0,.int .i64 0,.int .i64 0,.int .i64 0,.int .i64 0,.int .i64 0,.int .i64 0] Qq false)=H2 at *;cases q1:md==3 with
  | true=>
   rw[Lc q1]at hr';simp only[Qb,simprocAttr,a1,a3,a8,a13,a14,gS2,WY];refine .ext hw (hx2.set (Lb _) _) ⟨?_,_,rfl⟩;rw[hr'];simp[Sn.cells,Wh,pl8]
  | false=>
   rw[Le (by rw[q1];decide)]at hr';simp only[Qer,Qb,simprocAttr,a14];cases q2:rm==4 with
   | true=>
    rw[Lc q2]at hr';simp only[Qb,simprocAttr];refine fsib _ H2 _ _ (by simp only[Qg,simprocAttr,a0]) (by simp only[Qg,simprocAttr,a2]) (by simp only[Qg,simprocAttr,a3]) (by simp only[Qg,simprocAttr,a12]) ⟨hx2,by simp only[Qg,simprocAttr,a1],by simp only[Qg,simprocAttr,a8],by simp only[Qg,simprocAttr,a13],by simp only[Qg,simprocAttr,hn],gS2,gM2,ne,by omega,hi2⟩ hr' (λm p A3 H3 hp ha0 ha12 hf hr=>?_);rw[<- hT];exact ftail2 m p A3 H3 hp ha0 ha12 hf hr
   | false=>
    rw[Le (by rw[q2];decide)]at hr';simp only[Qjk,Qb,simprocAttr,a12,a14]
    by_cases q3:(md==0&&rm==5)=true
    ·rw[Lc q3]at hr';obtain⟨q4,q5⟩:(md==0)=true∧(rm==5)=true:=by simpa using q3
     simp only[q4,q5,Qjj,Qb,simprocAttr,a3,a12,a14];cases q6:bb==1 with
     | true=>
      rw[Lc q6]at hr';simp only[Qb,simprocAttr,a8,gS2,WY];exact Qn5 H r hw hx2 _ hr'
     | false=>
      rw[Le (by rw[q6];decide)]at hr';simp only[Qb,simprocAttr,gM2];rw[<- hT];refine ftail _ _ _ (by simp only[Qg,simprocAttr,a0]) (by simp only[Qg,simprocAttr,a12]) ⟨hx2.set (by omega) _,by simp only[Qg,simprocAttr,a1],by simp only[Qg,simprocAttr,a8],by simp only[Qg,simprocAttr,a13],by simp only[Qg,simprocAttr,hn],by rw[Qm,Le ne];exact gS2,by rw[Qm,Lc rfl];rfl,ne,by omega,hi2⟩ hr'
    ·rw[Le q3]at hr';have hst:∀A3:Env,A3 0=v->A3 1=.int .i64 p1->A3 8=.pointer (some ⟨H.next,0,none⟩)->A3 12=.int .i64 md->A3 13=.int .i64 mid->A3 15=.pointer (some ⟨H.next+1,0,none⟩)->T A3 (H2.set (H.next+1) (.cells [.int .i64 5,.int .i64 (pl8 bb rm),.int .i64 0,.int .i64 0,.int .i64 0,.int .i64 0,.int .i64 0] Qq false)):=λA3 b0 b1 b8 b12 b13 b15=>by
      rw[<- hT];exact ftail _ _ _ b0 b12 ⟨hx2.set (by omega) _,b1,b8,b13,b15,by rw[Qm,Le ne];exact gS2,by rw[Qm,Lc rfl];rfl,ne,by omega,hi2⟩ hr'
     cases q4:md==0 with
     | false=>
      simp only[Qb,simprocAttr,a3,a14,gM2];exact hst _ (by simp only[Qg,simprocAttr,a0]) (by simp only[Qg,simprocAttr,a1]) (by simp only[Qg,simprocAttr,a8]) (by simp only[Qg,simprocAttr,a12]) (by simp only[Qg,simprocAttr,a13]) (by simp only[Qg,simprocAttr,hn])
     | true=>
      have q5:(rm==5)=false:=by simpa[q4] using q3
      simp only[q5,Qb,simprocAttr,a3,a14,gM2];exact hst _ (by simp only[Qg,simprocAttr,a0]) (by simp only[Qg,simprocAttr,a1]) (by simp only[Qg,simprocAttr,a8]) (by simp only[Qg,simprocAttr,a12]) (by simp only[Qg,simprocAttr,a13]) (by simp only[Qg,simprocAttr,hn])
 have hbad:(x==1&&(md==3||!(rm==4)))=true->r=(Zg,4):=λh=>by rw[Lc h]at hr';exact hr'
 repeat' (first
  | (refine Qo (λh=>?_) (λh=>?_)<;>(try simp only[Lr,Lu]at h)<;>simp only[Qb,simprocAttr,h,r8,gS,WY])
  | (refine Qf (λh=>?_) (λh=>?_)<;>(try simp only[Lr,Lu]at h)<;>simp only[Qb,simprocAttr,h,r8,gS,WY])
  | fail)
 all_goals first
  | (refine go _ (by simp only[Qg,simprocAttr,r0]) (by simp only[Qg,simprocAttr]) (by simp only[Qg,simprocAttr,r2]) (by simp only[Qg,simprocAttr,r3]) (by simp only[Qg,simprocAttr,r8]) (by simp only[Qg,simprocAttr]) (by simp only[Qg,simprocAttr]) (by simp only[Qg,simprocAttr]) (by simp_all);done)
  | (refine Qn5 H r hw hx _ (hbad (by simp_all));done)
theorem Qtq (v:Value) (bs:List Int) (hb:QbC H v bs) (hl:bs.length<=1000000) (p x bb:Int) (hp:I64 p):Qh prog Qis [v,.int .i64 p,.int .i64 x,.int .i64 bb] H (QwR H (rdF bs p x bb)):=by
 refine QrL λhw=>?_;obtain⟨r,hr⟩:∃r,r=rdF bs p x bb:=⟨_,rfl⟩;rw[<- hr];have hr':r=if(decide (p<0)||decide ((bs.length:Int)<p)||decide (x<0)||decide (1<x)||decide (bb<0)||decide (1<bb))=true then(Zg,5)
  else if((Yz bs p 1 false).2==0)=true then Qn4 bs (IntKind.i64.wrap (p+1)) (QY (Yz bs p 1 false).1).1 (QY (Yz bs p 1 false).1).2.1 (QY (Yz bs p 1 false).1).2.2 x bb
  else(Zg,(Yz bs p 1 false).2):=hr
 clear hr;obtain⟨a,cap,rfl,_⟩:=id hb;have hx0:Ext H (H.push (.cells z10 QM false)):=(Ext.refl H).push _;have gS:(H.push (.cells z10 QM false)).get H.next=some (.cells z10 QM false):=by rw[Qi,Lc rfl]
 have hn0:(H.push (.cells z10 QM false)).next=H.next+1:=rfl;simp only[QlI,Qb,simprocAttr];generalize H.push (.cells z10 QM false)=H0 at *;have go:∀A:Env,A 0=.slice a bs.length cap->A 1=.int .i64 p->A 2=.int .i64 x->A 3=.int .i64 bb->A 8=.pointer (some ⟨H.next,0,none⟩)->(decide (p<0)||decide ((bs.length:Int)<p)||decide (x<0)||decide (1<x)||decide (bb<0)||decide (1<bb))=false->Qn prog QdE ⟨KRd H r,X2⟩ (KRd H r) A H0:=by
  intro A a0 a1 a2 a3 a8 hc;rw[Le (by rw[hc];decide)]at hr';have qg:=QgL _ bs p 1 false H0 (hb.ext hw hx0) hl hp;simp only[QdE,Qb,simprocAttr,a0,a1];refine qg.thenW ?_;rintro _ H1 _ hw1 ⟨rfl,rfl⟩;generalize Yz bs p 1 false=g at *;obtain⟨g,ge⟩:=g;simp only at hr';simp only[Qb,simprocAttr];cases q1:ge==0 with
  | false=>
   rw[Le (by rw[q1];decide)]at hr';simp only[Qb,simprocAttr,a8,gS,WY];exact Qn5 H r hw hx0 _ hr'
  | true=>
   rw[Lc q1]at hr';simp only[Qb,simprocAttr];exact QDp H r hw _ bs hb hl g p x bb hp _ _ _ _ (by simp only[Qg,simprocAttr,a0]) (by simp only[Qg,simprocAttr,a1]) (by simp only[Qg,simprocAttr,a2]) (by simp only[Qg,simprocAttr,a3]) (by simp only[Qg,simprocAttr,a8]) (by simp only[Qg,simprocAttr]) hx0 hn0 gS hr'
 have hbad:(decide (p<0)||decide ((bs.length:Int)<p)||decide (x<0)||decide (1<x)||decide (bb<0)||decide (1<bb))=true->r=(Zg,5):=λh=>by rw[Lc h]at hr';exact hr'
 clear hr'
 repeat' (first
  | (refine Qo (λh=>?_) (λh=>?_)<;>(try simp only[Lr,Lu]at h)<;>simp only[Qb,simprocAttr,h,gS,WY])
  | (refine Qf (λh=>?_) (λh=>?_)<;>(try simp only[Lr,Lu]at h)<;>simp only[Qb,simprocAttr,h,gS,WY])
  | fail)
 all_goals first
  | (refine go _ (by simp only[Qg,simprocAttr]) (by simp only[Qg,simprocAttr]) (by simp only[Qg,simprocAttr]) (by simp only[Qg,simprocAttr]) (by simp only[Qg,simprocAttr]) (by clear go hbad;simp_all);done)
  | (refine Qn5 H r hw hx0 _ (hbad (by clear go hbad;simp_all));done)
end
def ppF (n:Int):Int:=if n=1 then 1 else if n=2 then 4 else if n=3 then 2 else 0
theorem Qni (n:Int) (H:Qa):Qh prog Qfc [.int .i64 n] H λu H'=>u=.int .i64 (ppF n)∧H'=H:=by
 refine QrO λhw=>?_;simp(disch:=(first | omega | (simp only[hnP];try omega))) only[QlQ,Qk,simprocAttr,QkO]
 repeat' (first
   | (refine Qf (λh=>?_) (λh=>?_)<;>(try simp only[Lr,Lu]at h)<;>simp(disch:=(first | omega | (simp only[hnP];try omega))) only[Qk,simprocAttr,QkO,h])
   | fail)
 all_goals refine .mk (Lb _) ⟨?_,rfl⟩
 all_goals (simp only[ppF];simp_all)
def QcP (a b:Int):Int:=IntKind.i64.wrap (BitVec.ofInt IntKind.i64.bits a ^^^ BitVec.ofInt IntKind.i64.bits b).toNat
structure Vx where
 r:Int
 x:Int
 b:Int
 map:Int
 w:Int
 v:Int
 l:Int
 pre:Int
def Vx.cells (v:Vx):List Value:=[.int .i64 v.r,.int .i64 v.x,.int .i64 v.b,.int .i64 v.map,.int .i64 v.w,.int .i64 v.v,.int .i64 v.l,.int .i64 v.pre]
def Qa5:Vx:=⟨0,0,0,0,0,0,0,0⟩
def vx2 (b1:Int):Vx:=⟨QbE (QcP (IntKind.i64.wrap b1) 248) 7,0,0,1,0,YM (QbE (QcP (IntKind.i64.wrap b1) 248) 3) 15,YM (QbE (QcP (IntKind.i64.wrap b1) 248) 2) 1,ppF (YM (QcP (IntKind.i64.wrap b1) 248) 3)⟩
def vx3 (b1 b2:Int):Vx:=⟨QbE (QcP (IntKind.i64.wrap b1) 224) 7,YM (QbE (QcP (IntKind.i64.wrap b1) 224) 6) 1,YM (QbE (QcP (IntKind.i64.wrap b1) 224) 5) 1,YM (QcP (IntKind.i64.wrap b1) 224) 31,QbE (QcP (IntKind.i64.wrap b2) 120) 7,YM (QbE (QcP (IntKind.i64.wrap b2) 120) 3) 15,YM (QbE (QcP (IntKind.i64.wrap b2) 120) 2) 1,ppF (YM (QcP (IntKind.i64.wrap b2) 120) 3)⟩
def YN (bs:List Int):Vx×Int×Int:=
 if bs.length=0 then(Qa5,0,9)
 else if(bs.getD 0 0==197)=true then(if bs.length<2 then(Qa5,0,9) else(vx2 (bs.getD 1 0),2,0))
 else if(bs.getD 0 0==196)=false then(Qa5,0,4)
 else if bs.length<2 then(Qa5,0,9)
 else if(decide (YM (QcP (IntKind.i64.wrap (bs.getD 1 0)) 224) 31<1)||decide (3<YM (QcP (IntKind.i64.wrap (bs.getD 1 0)) 224) 31))=true then(Qa5,0,4)
 else if bs.length<3 then(Qa5,0,9) else(vx3 (bs.getD 1 0) (bs.getD 2 0),3,0)
theorem QwS (v:Value) (bs:List Int) (H:Qa) (hb:QbC H v bs) (hl:bs.length<=1000000):Qh prog Qmr [v] H λu H'=>u=.tuple #[.agg (YN bs).1.cells.toArray,.int .i64 (YN bs).2.1,.int .i64 (YN bs).2.2]∧∃k,H'=H.up k:=by
 refine QuV λhw=>?_;obtain⟨a,cap,rfl,hb⟩:=hb;have hx0:Ext H (H.push (.cells Qa5.cells QbL false)):=(Ext.refl H).push _;have gV:(H.push (.cells Qa5.cells QbL false)).get H.next=some (.cells Qa5.cells QbL false):=by rw[Qi,Lc rfl]
 have hz:Qa5.cells=[.int .i64 0,.int .i64 0,.int .i64 0,.int .i64 0,.int .i64 0,.int .i64 0,.int .i64 0,.int .i64 0]:=rfl;rw[hz]at hx0 gV;have hlt:=fun(b:Nat) c e ro (h:H.get b=some (.cells c e ro))=>hw.lt h;obtain⟨r,hr⟩:∃r,r=YN bs:=⟨_,rfl⟩;rw[<- hr];have hr':r=if bs.length=0 then(Qa5,0,9)
  else if(bs.getD 0 0==197)=true then(if bs.length<2 then(Qa5,0,9) else(vx2 (bs.getD 1 0),2,0))
  else if(bs.getD 0 0==196)=false then(Qa5,0,4)
  else if bs.length<2 then(Qa5,0,9)
  else if(decide (YM (QcP (IntKind.i64.wrap (bs.getD 1 0)) 224) 31<1)||decide (3<YM (QcP (IntKind.i64.wrap (bs.getD 1 0)) 224) 31))=true then(Qa5,0,4)
  else if bs.length<3 then(Qa5,0,9) else(vx3 (bs.getD 1 0) (bs.getD 2 0),3,0):=hr
 clear hr;have fin:∀ (v:Vx) (n x:Int) (H1:Qa),Ext H H1->r=(v,n,x)->Ret H (λu H'=>u=.tuple #[.agg r.1.cells.toArray,.int .i64 r.2.1,.int .i64 r.2.2]∧∃k,H'=H.up k) (.tuple #[.agg v.cells.toArray,.int .i64 n,.int .i64 x]) H1:=λv n x H1 h1 h2=>.ext hw h1 ⟨by rw[h2],_,rfl⟩;have hset:∀b,Ext H ((H.push (.cells [.int .i64 0,.int .i64 0,.int .i64 0,.int .i64 0,.int .i64 0,.int .i64 0,.int .i64 0,.int .i64 0] QbL false)).set H.next b):=λb=>hx0.set (Lb _) b;simp only[QoS,Qb,simprocAttr];generalize H.push (.cells [.int .i64 0,.int .i64 0,.int .i64 0,.int .i64 0,.int .i64 0,.int .i64 0,.int .i64 0,.int .i64 0] QbL false)=H0 at *;have ferr:∀ (x:Int) (H1:Qa),Ext H H1->r=(Qa5,0,x)->Ret H (λu H'=>u=.tuple #[.agg r.1.cells.toArray,.int .i64 r.2.1,.int .i64 r.2.2]∧∃k,H'=H.up k) (.tuple #[.agg #[.int .i64 0,.int .i64 0,.int .i64 0,.int .i64 0,.int .i64 0,.int .i64 0,.int .i64 0,.int .i64 0],.int .i64 0,.int .i64 x]) H1:=λx H1 h1 h2=>fin Qa5 0 x H1 h1 h2
 by_cases n0:bs.length=0
 ·rw[Lc n0]at hr';have e0:((bs.length:Int)==0)=true:=by simp[n0]
  simp only[e0,Qb,simprocAttr,gV,Y4];exact ferr _ _ (hset _) hr'
 ·rw[Le n0]at hr';have e0:((bs.length:Int)==0)=false:=LC.2 (by omega);obtain⟨b,o,e,ro,cs,rfl,hg,hc⟩:=hb (by omega);have hg0:H0.get b=some (.cells cs e ro):=(hx0.get b (hw.lt hg)).trans hg;have c0:(0:Int)<=0∧(0:Int)<bs.length:=by omega
  have t0:(0:Int).toNat=0:=rfl;have t1:(1:Int).toNat=1:=rfl;have t2:(2:Int).toNat=2:=rfl;have g0:=hc 0 (by omega);simp only[N9]at g0;have s7:(0:Int)<=7:=by omega
  have s6:(0:Int)<=6:=by omega
  have s5:(0:Int)<=5:=by omega
  have s3:(0:Int)<=3:=by omega
  have s2:(0:Int)<=2:=by omega
  simp only[QlO,e0,Qb,simprocAttr,c0,t0,hg0,g0];cases q1:bs.getD 0 0==197 with
  | true=>
   rw[Lc q1]at hr'
   by_cases n2:bs.length<2
   ·rw[Lc n2]at hr';have l2:decide ((bs.length:Int)<2)=true:=Lp (by omega);simp only[QgZ,l2,Qb,simprocAttr,gV,Y4];exact ferr _ _ (hset _) hr'
   ·rw[Le n2]at hr';have l2:decide ((bs.length:Int)<2)=false:=Lj (by omega);have c1:(0:Int)<=1∧(1:Int)<bs.length:=by omega
    have g1:=hc 1 (by omega);simp only[QgZ,QlM,l2,Qb,simprocAttr,c1,t1,hg0,g1,s7,s3,s2];refine(Qni _ _).thenW ?_;rintro _ H0 _ hw1 ⟨rfl,rfl⟩;simp only[Qb,simprocAttr,gV,Y4];exact fin (vx2 (bs.getD 1 0)) 2 0 _ (hset _) hr'
  | false=>
   rw[Le (by rw[q1];decide)]at hr';simp only[QlN,Qb,simprocAttr,c0,t0,hg0,g0];cases q2:bs.getD 0 0==196 with
   | false=>
    rw[Lc q2]at hr';simp only[Qb,simprocAttr,gV,Y4];exact ferr _ _ (hset _) hr'
   | true=>
    rw[Le (by rw[q2];decide)]at hr'
    by_cases n2:bs.length<2
    ·rw[Lc n2]at hr';have l2:decide ((bs.length:Int)<2)=true:=Lp (by omega);simp only[Qg0,l2,Qb,simprocAttr,gV,Y4];exact ferr _ _ (hset _) hr'
    ·rw[Le n2]at hr';have l2:decide ((bs.length:Int)<2)=false:=Lj (by omega);have c1:(0:Int)<=1∧(1:Int)<bs.length:=by omega
     have g1:=hc 1 (by omega);have hxo:IntKind.i64.wrap (BitVec.ofInt IntKind.i64.bits (IntKind.i64.wrap (bs.getD 1 0)) ^^^ BitVec.ofInt IntKind.i64.bits 224).toNat=QcP (IntKind.i64.wrap (bs.getD 1 0)) 224:=rfl;have han:IntKind.i64.wrap (BitVec.ofInt IntKind.i64.bits (QcP (IntKind.i64.wrap (bs.getD 1 0)) 224) &&& BitVec.ofInt IntKind.i64.bits 31).toNat=YM (QcP (IntKind.i64.wrap (bs.getD 1 0)) 224) 31:=rfl;simp only[Qg0,QlL,l2,Qb,simprocAttr,c1,t1,hg0,g1,hxo,han];have go:∀A:Env,A 0=.slice (some ⟨b,o,none⟩) bs.length cap->A 2=.pointer (some ⟨H.next,0,none⟩)->A 6=.int .i64 (QcP (IntKind.i64.wrap (bs.getD 1 0)) 224)->(decide (YM (QcP (IntKind.i64.wrap (bs.getD 1 0)) 224) 31<1)||decide (3<YM (QcP (IntKind.i64.wrap (bs.getD 1 0)) 224) 31))=false->Qn prog QdP ⟨Rt prog QqA H (λu H'=>u=.tuple #[.agg r.1.cells.toArray,.int .i64 r.2.1,.int .i64 r.2.2]∧∃k,H'=H.up k),X2⟩ (Rt prog QqA H (λu H'=>u=.tuple #[.agg r.1.cells.toArray,.int .i64 r.2.1,.int .i64 r.2.2]∧∃k,H'=H.up k)) A H0:=by
      intro A a0 a2 a6 hp;rw[Le (by rw[hp];decide)]at hr'
      by_cases n3:bs.length<3
      ·rw[Lc n3]at hr';have l3:decide ((bs.length:Int)<3)=true:=Lp (by omega);simp only[QdP,l3,Qb,simprocAttr,a0,a2,gV,Y4];exact ferr _ _ (hset _) hr'
      ·rw[Le n3]at hr';have l3:decide ((bs.length:Int)<3)=false:=Lj (by omega);have c2:(0:Int)<=2∧(2:Int)<bs.length:=by omega
       have g2:=hc 2 (by omega);simp only[QdP,QlK,l3,Qb,simprocAttr,a0,a6,c2,t2,hg0,g2,s7,s6,s5,s3,s2];refine(Qni _ _).thenW ?_;rintro _ H0 _ hw1 ⟨rfl,rfl⟩;simp only[Qb,simprocAttr,a2,gV,Y4];exact fin (vx3 (bs.getD 1 0) (bs.getD 2 0)) 3 0 _ (hset _) hr'
     have hbad:(decide (YM (QcP (IntKind.i64.wrap (bs.getD 1 0)) 224) 31<1)||decide (3<YM (QcP (IntKind.i64.wrap (bs.getD 1 0)) 224) 31))=true->r=(Qa5,0,4):=λh=>by rw[Lc h]at hr';exact hr'
     clear hr'
     repeat' (first
      | (refine Qo (λh=>?_) (λh=>?_)<;>(try simp only[Lr,Lu]at h)<;>simp only[Qb,simprocAttr,h,gV,Y4])
      | (refine Qf (λh=>?_) (λh=>?_)<;>(try simp only[Lr,Lu]at h)<;>simp only[Qb,simprocAttr,h,gV,Y4])
      | fail)
     all_goals first
      | (refine go _ (by simp only[Qg,simprocAttr]) (by simp only[Qg,simprocAttr]) (by simp only[Qg,simprocAttr]) (by clear go hbad;simp_all);done)
      | (refine ferr _ _ (hset _) (hbad (by clear go hbad;simp_all));done)
theorem QHV {P:Program} {fn:Func} {H0 H:Qa} {k:Value->Qa->Prop} {A:Env} {r s u w:Nat} (hr:fn.results=#[.tmp r,.tmp s,.tmp u,.tmp w]) (hn:(Nat.blt r fn.ntmps&&Nat.blt s fn.ntmps&&Nat.blt u fn.ntmps&&Nat.blt w fn.ntmps)=true):Rt P fn H0 k A H=Ret H0 k (.tuple #[A r,A s,A u,A w]) H:=by
 have:((r<fn.ntmps∧s<fn.ntmps)∧u<fn.ntmps)∧w<fn.ntmps:=by simpa using hn
 simp[Rt,Qph,Ret,QjH,hr,GY,this]
theorem QA7 (H0 H:Qa) (k:Value->Qa->Prop) (A:Env):Rt prog QwN H0 k A H=Ret H0 k (.tuple #[A 2,A 3,A 4,A 5]) H:=QHV (by kernel_rfl) (by kernel_rfl)
def Jl (n:Nat) (i k:Nat):Int:=if k<i∧(n / 2 ^ k) % 2=1 then 1 else 0
theorem QDq:∀ (n:Fin 16) (i:Fin 4),IntKind.i64.wrap (BitVec.ofInt IntKind.i64.bits ((n.1:Nat):Int) &&& BitVec.ofInt IntKind.i64.bits (IntKind.i64.wrap (1 * 2 ^ (min i.1 IntKind.i64.bits)))).toNat=if(n.1 / 2 ^ i.1) % 2=1 then(2 ^ i.1:Int) else 0:=by decide
theorem QwT (n:Nat) (hn:n<16) (H:Qa):Qh prog Qms [.int .i64 n] H λu H'=>u=.tuple #[.int .i64 (Jl n 4 3),.int .i64 (Jl n 4 2),.int .i64 (Jl n 4 1),.int .i64 (Jl n 4 0)]∧H'=H:=by
 refine QuW λhw=>?_;have h0:decide ((n:Int)<0)=false:=Lj (by omega);have h1:decide ((15:Int)<n)=false:=Lj (by omega);simp only[QoT,QlV,h0,h1,Qb,simprocAttr];refine QE (λm A H'=>∃i:Nat,i<=4∧m=4 - i∧H'=H∧A 0=.int .i64 n∧A 17=.int .i64 i∧A 6=.int .i64 (Jl n i 3)∧A 7=.int .i64 (Jl n i 2)∧A 8=.int .i64 (Jl n i 1)∧A 9=.int .i64 (Jl n i 0)) 4 ?_ ?_
 ·refine⟨0,L7 _,by omega,rfl,?_,?_,?_,?_,?_,?_⟩
  all_goals simp only[Qg,simprocAttr]
  all_goals rfl
 ·rintro m A H' ⟨i,hi,rfl,rfl,r0,r17,r6,r7,r8,r9⟩;simp only[QlU,Qb,simprocAttr,r17];refine Qf (λh2=>?_) (λh2=>?_)
  ·have h2:i<4:=by have:=Lg h2;omega
   have c0:(0:Int)<=i:=by omega
   have c3:(i:Int).toNat=i:=by omega
   have ei:IntKind.i64.wrap ((i:Int)+1)=((i+1:Nat):Int):=by rw[w64 (by unfold I64;omega)];omega
   have ab:=QDq ⟨n,hn⟩ ⟨i,h2⟩;simp only at ab;simp only[QlT,Qb,simprocAttr,r0,r17,c0,c3,ab];obtain⟨q,hq⟩:∃q,(n / 2 ^ i) % 2=q:=⟨_,rfl⟩;have hq2:q=0∨q=1:=by omega
   rw[hq];have go:∀A2:Env,A2 0=.int .i64 n->A2 17=.int .i64 ((i+1:Nat):Int)->A2 6=.int .i64 (Jl n (i+1) 3)->A2 7=.int .i64 (Jl n (i+1) 2)->A2 8=.int .i64 (Jl n (i+1) 1)->A2 9=.int .i64 (Jl n (i+1) 0)->Qx4 (λm A H'_1=>∃i:Nat,i<=4∧m=4 - i∧H'_1=H'∧A 0=.int .i64 n∧A 17=.int .i64 i∧A 6=.int .i64 (Jl n i 3)∧A 7=.int .i64 (Jl n i 2)∧A 8=.int .i64 (Jl n i 1)∧A 9=.int .i64 (Jl n i 0)) (4 - i) A2 H':=λA2 a0 a17 a6 a7 a8 a9=>⟨4 - (i+1),by omega,i+1,by omega,rfl,rfl,a0,a17,a6,a7,a8,a9⟩;obtain rfl | rfl | rfl | rfl:i=0∨i=1∨i=2∨i=3:=by omega
   all_goals rcases hq2 with rfl | rfl
   all_goals simp only[QlS,QlR,Qb,simprocAttr,r17,ei,N3,LN,Int.reducePow,Int.reduceBEq,Nat.reduceEqDiff,Nat.zero_ne_one,Nat.one_ne_zero]
   all_goals refine go _ ?_ ?_ ?_ ?_ ?_ ?_
   all_goals simp only[Qg,simprocAttr,r0,r6,r7,r8,r9]
   all_goals (first | rfl | (simp only[Jl,hq];simp))
  ·have h2:i=4:=by have:=Ll h2;omega
   subst h2;simp only[Qb,simprocAttr,r6,r7,r8,r9,QA7];exact .mk (Lb _) ⟨rfl,rfl⟩
def szF (s:Int):Int:=if s=15 then 0 else if s=7 then 1 else if s=8∨s=34 then 2 else if s=9∨s=11∨s=16 then 4 else if s=10∨s=12∨s=17 then 8 else if s=13∨s=18 then 16 else if s=14∨s=19 then 32 else -1
theorem Qez (s:Int) (H:Qa):Qh prog KA [.int .i64 s] H λu H'=>u=.int .i64 (szF s)∧H'=H:=by
 refine QnZ λhw=>?_;simp(disch:=(first | omega | (simp only[hnP];try omega))) only[QhG,QfH,QfI,QfJ,QfK,QfL,QfM,QfN,QfO,QfP,QeV,Qk,simprocAttr,QgG]
 repeat' (first
   | (refine Qf (λh=>?_) (λh=>?_)<;>(try simp only[Lr,Lu]at h)<;>simp(disch:=(first | omega | (simp only[hnP];try omega))) only[Qk,simprocAttr,QgG,h])
   | fail)
 all_goals refine .mk (Lb _) ⟨?_,rfl⟩
 all_goals (simp only[L0,LC,Da]at *;simp only[szF];simp[*])
def clF (s:Int):Int:=if s=1∨s=7 then 1 else if s=2∨s=8 then 3 else if s=3∨s=9 then 4 else if s=4∨s=10 then 5 else if s=5∨s=11∨s=12∨s=13 then 6 else if s=6∨s=14 then 7 else 0
theorem QhV (s:Int) (H:Qa):Qh prog VU [.int .i64 s] H λu H'=>u=.int .i64 (clF s)∧H'=H:=by
 refine Qm6 λhw=>?_;simp(disch:=(first | omega | (simp only[hnP];try omega))) only[QgF,QeM,QeN,QeO,QeP,QeQ,QeR,QeS,QeT,QeU,Qd0,Qd1,Qk,simprocAttr,QfG]
 repeat' (first
   | (refine Qf (λh=>?_) (λh=>?_)<;>(try simp only[Lr,Lu]at h)<;>simp(disch:=(first | omega | (simp only[hnP];try omega))) only[Qk,simprocAttr,QfG,h])
   | fail)
 all_goals refine .mk (Lb _) ⟨?_,rfl⟩
 all_goals (simp only[L0,LC,Da]at *;simp only[clF];simp[*])
structure Rr where
 x:Lf
 bv:Value
 p:Int
 rex:Bool
 r:Int
 xx:Int
 bb:Int
 v:Int
 low:Int
 seen:Sn
def Rr.cells (c:Rr):List Value:=c.x.cells++([c.bv,.int .i64 c.p,.bool c.rex,.int .i64 c.r,.int .i64 c.xx,.int .i64 c.bb,.int .i64 c.v,.int .i64 c.low]++c.seen.cells)
theorem Xl (c:Rr):c.cells.length=28:=rfl
theorem Y6 (c:Rr):List.take 10 c.cells=c.x.cells:=rfl
theorem rr1 (c:Rr):c.cells[1]? = some c.x.sv:=rfl
theorem QrX (c:Rr):c.cells[10]? = some c.bv:=rfl
theorem QkU (c:Rr):c.cells[11]? = some (.int .i64 c.p):=rfl
theorem QG8 (c:Rr):c.cells[12]? = some (.bool c.rex):=rfl
theorem Qpv (c:Rr):c.cells[13]? = some (.int .i64 c.r):=rfl
theorem Qpw (c:Rr):c.cells[14]? = some (.int .i64 c.xx):=rfl
theorem Qn6 (c:Rr):c.cells[15]? = some (.int .i64 c.bb):=rfl
theorem QwU (c:Rr) (n:Int):List.take 11 c.cells++(Value.int .i64 n::List.drop 12 c.cells)=({c with p:=n}:Rr).cells:=rfl
structure Wp (H H':Qa) (b:Nat) (c:Rr):Prop where
 next:H.next<=H'.next
 get:∀id,id<H.next->id≠b->H'.get id=H.get id
 at_:H'.get b=some (.cells c.cells We false)
theorem Wp.refl {H:Qa} {b:Nat} {c:Rr} (h:H.get b=some (.cells c.cells We false)):Wp H H b c:=⟨Lb _,λ_ _ _=>rfl,h⟩
theorem Wp.trans {H H1 H2:Qa} {b:Nat} {c c':Rr} (h1:Wp H H1 b c) (h2:Wp H1 H2 b c'):Wp H H2 b c':=
 ⟨N8 h1.next h2.next,λid hid hne=>by rw[h2.get id (N5 hid h1.next) hne,h1.get id hid hne],h2.at_⟩
theorem Wp.up {H H1:Qa} {b:Nat} {c:Rr} (h1:Wp H H1 b c) {k:Nat} (hk:H1.next<=k):Wp H (H1.up k) b c:=⟨N8 h1.next hk,λid hid hne=>by rw[W3];exact h1.get id hid hne,by rw[W3];exact h1.at_⟩
theorem Wp.set {H H1:Qa} {b:Nat} {c:Rr} (h1:Wp H H1 b c) (c':Rr):Wp H (H1.set b (.cells c'.cells We false)) b c':=⟨h1.next,λid hid hne=>by rw[Qm,Le hne];exact h1.get id hid hne,by rw[Qm,Lc rfl]⟩
def Qa6 (H:Qa) (b:Nat) (e:Int) (c:Rr):Value->Qa->Prop:=λu H'=>u=.int .i64 e∧Wp H H' b c
def ZB (f:Fm) (r x bb:Int):Bool:=
 if(r==1&&decide (QC f.slots 1<0))=true then false
 else if(x==1&&(decide (QC f.slots 2<0)||decide (szF (f.shapes.getD (QC f.slots 2).toNat 0)<0)))=true then false
 else(bb==0)||decide (0<=QC f.slots 2)||decide (0<=QC f.slots 4)
theorem Qu5 (x:Int):∀ (l:List Int) (k:Nat),QjA l x k<((k+l.length:Nat):Int)
 | [],k=>by simp[QjA];omega
 | y::l,k=>by
  unfold QjA;split
  ·simp;omega
  ·have:=Qu5 x l (k+1);simp only[Lo];omega
theorem Qtr (l:List Int) (x:Int):QC l x<l.length:=by
 have:=Qu5 x l 0;unfold QC;omega
theorem Qn7 (b:Nat) (c:Rr) (H:Qa) (hc:H.get b=some (.cells c.cells We false)) (hx:c.x.At H) (hs:c.x.f.shapes.length=c.x.f.slots.length):Qh prog Xo [.pointer (some ⟨b,0,none⟩)] H λu H'=>u=.bool (ZB c.x.f c.r c.xx c.bb)∧∃k,H'=H.up k:=by
 refine QgY λhw=>?_;have q1:=λH' (he:Ext H H')=>XS c.x 1 H' (hx.ext hw he);have q2:=λH' (he:Ext H H')=>XS c.x 2 H' (hx.ext hw he);have q4:=λH' (he:Ext H H')=>XS c.x 4 H' (hx.ext hw he);have hlt:=Qtr c.x.f.slots 2;obtain⟨a1,c1,e1,s1⟩:=id hx.2.2.1;have hsv:c.cells[1]? = some (.slice a1 c.x.f.shapes.length c1):=by rw[rr1,e1]
 have hal:ZB c.x.f c.r c.xx c.bb=if(c.r==1&&decide (QC c.x.f.slots 1<0))=true then false
  else if(c.xx==1&&(decide (QC c.x.f.slots 2<0)||decide (szF (c.x.f.shapes.getD (QC c.x.f.slots 2).toNat 0)<0)))=true then false
  else(c.bb==0)||decide (0<=QC c.x.f.slots 2)||decide (0<=QC c.x.f.slots 4):=rfl
 rw[hal];clear hal;generalize QC c.x.f.slots 1=i1 at *;generalize QC c.x.f.slots 2=i2 at *;generalize QC c.x.f.slots 4=i4 at *;have hx0:=Ext.refl H;have hcell:0<=i2->∃b1 e1 ro1,a1=some ⟨b1,0,none⟩∧H.get b1=some (.cells (ints c.x.f.shapes) e1 ro1):=λh=>s1 (by omega);have l2:decide (i2<0)=!decide (0<=i2):=by rw[Ni,Lr,Lv,NY];omega
 by_cases hk:0<=i2
 ·obtain⟨b1,t1,ro1,rfl,hb1⟩:=hcell hk;have hlt1:=hw.lt hb1;have hk1:decide (0<=i2)=true:=Lp hk;have hk2:decide (i2<0)=false:=Lj (by omega);have d1:(0:Int)<=i2∧i2<c.x.f.shapes.length:=by omega
  have g1:=XQ (l:=c.x.f.shapes) (i:=i2.toNat) (by omega);have qz:=λH=>Qez (c.x.f.shapes.getD i2.toNat 0) H;generalize szF (c.x.f.shapes.getD i2.toNat 0)=z at *;simp only[Ja,Qb,simprocAttr,hc,Xl,Y6];refine(q2 _ hx0).thenW ?_;rintro _ _ hn hw2 ⟨rfl,k2,rfl⟩;have hx0:=hx0.up (show _<=k2 from hn);simp only[Qv,Qw,Qb,simprocAttr,hc,Xl,Y6,Qpv,Qpw,Qn6,hsv,Qy]
  repeat' (first
   | (refine Qo (λh=>?_) (λh=>?_)<;>(try simp only[Lr,Lu]at h)<;>simp only[Qv,Qw,Qb,simprocAttr,hc,Xl,Y6,Qpv,Qpw,Qn6,hsv,Qy,h,hk1,hk2,d1,hb1,g1])
   | (refine Qf (λh=>?_) (λh=>?_)<;>(try simp only[Lr,Lu]at h)<;>simp only[Qv,Qw,Qb,simprocAttr,hc,Xl,Y6,Qpv,Qpw,Qn6,hsv,Qy,h,hk1,hk2,d1,hb1,g1])
   | (refine(q1 _ hx0).thenW ?_;rintro _ _ hn hw2 ⟨rfl,k,rfl⟩;have hx0:=hx0.up (show _<=k from hn);simp only[Qv,Qw,Qb,simprocAttr,hc,Xl,Y6,Qpv,Qpw,Qn6,hsv,Qy,hk1,hk2,d1,hb1,g1])
   | (refine(q4 _ hx0).thenW ?_;rintro _ _ hn hw2 ⟨rfl,k,rfl⟩;have hx0:=hx0.up (show _<=k from hn);simp only[Qv,Qw,Qb,simprocAttr,hc,Xl,Y6,Qpv,Qpw,Qn6,hsv,Qy,hk1,hk2,d1,hb1,g1])
   | (refine(qz _).thenW ?_;rintro _ _ hn hw2 ⟨rfl,rfl⟩;simp only[Qv,Qw,Qb,simprocAttr,hc,Xl,Y6,Qpv,Qpw,Qn6,hsv,Qy,hk1,hk2,d1,hb1,g1])
   | fail)
  all_goals refine .ext hw hx0 ⟨?_,_,rfl⟩
  all_goals (clear q1 q2 q4 qz hc hx hsv hcell hb1 g1 e1 s1;simp_all)
 ·have hk1:decide (0<=i2)=false:=Lj hk;have hk2:decide (i2<0)=true:=Lp (by omega);simp only[Ja,Qb,simprocAttr,hc,Xl,Y6];refine(q2 _ hx0).thenW ?_;rintro _ _ hn hw2 ⟨rfl,k2,rfl⟩;have hx0:=hx0.up (show _<=k2 from hn);simp only[Qv,Qw,Qb,simprocAttr,hc,Xl,Y6,Qpv,Qpw,Qn6,hsv,Qy]
  repeat' (first
   | (refine Qo (λh=>?_) (λh=>?_)<;>(try simp only[Lr,Lu]at h)<;>simp only[Qv,Qw,Qb,simprocAttr,hc,Xl,Y6,Qpv,Qpw,Qn6,hsv,Qy,h,hk1,hk2])
   | (refine Qf (λh=>?_) (λh=>?_)<;>(try simp only[Lr,Lu]at h)<;>simp only[Qv,Qw,Qb,simprocAttr,hc,Xl,Y6,Qpv,Qpw,Qn6,hsv,Qy,h,hk1,hk2])
   | (refine(q1 _ hx0).thenW ?_;rintro _ _ hn hw2 ⟨rfl,k,rfl⟩;have hx0:=hx0.up (show _<=k from hn);simp only[Qv,Qw,Qb,simprocAttr,hc,Xl,Y6,Qpv,Qpw,Qn6,hsv,Qy,hk1,hk2])
   | (refine(q4 _ hx0).thenW ?_;rintro _ _ hn hw2 ⟨rfl,k,rfl⟩;have hx0:=hx0.up (show _<=k from hn);simp only[Qv,Qw,Qb,simprocAttr,hc,Xl,Y6,Qpv,Qpw,Qn6,hsv,Qy,hk1,hk2])
   | fail)
  all_goals refine .ext hw hx0 ⟨?_,_,rfl⟩
  all_goals (clear q1 q2 q4 hc hx hsv hcell e1 s1;simp_all)
structure VF (H0 H:Qa) (b:Nat) (c:Rr) (bs:List Int):Prop where
 wf:H0.Wf
 hx:Ext H0 H
 lo:H0.next<=b
 at_:H.get b=some (.cells c.cells We false)
 fm:c.x.At H0
 by_:QbC H0 c.bv bs
 len:bs.length<=1000000
 p0:0<=c.p∧c.p<=bs.length
theorem VF.only {H0 H H':Qa} {b:Nat} {c c':Rr} {bs:List Int} (h:VF H0 H b c bs) (ho:Wp H H' b c') (hx:c'.x=c.x) (hb:c'.bv=c.bv) (hp:0<=c'.p∧c'.p<=bs.length):VF H0 H' b c' bs:=
 ⟨h.wf,⟨N8 h.hx.next ho.next,λid hid=>by rw[ho.get id (N5 hid h.hx.next) (by have:=h.lo;omega),h.hx.get id hid]⟩,h.lo,ho.at_,by rw[hx];exact h.fm,by rw[hb];exact h.by_,h.len,hp⟩
theorem VF.up {H0 H:Qa} {b:Nat} {c:Rr} {bs:List Int} (h:VF H0 H b c bs) {k:Nat} (hk:H.next<=k):VF H0 (H.up k) b c bs:=h.only (Wp.refl h.at_ |>.up hk) rfl rfl h.p0
def Qlu (bs:List Int) (p n:Int):Int×Int:=
 if(bs.length:Int)<=p then(9,p) else if(IntKind.i64.wrap (bs.getD p.toNat 0)==n)=false then(4,p) else(0,IntKind.i64.wrap (p+1))
theorem QqP {bs:List Int} {p n:Int} (h:0<=p∧p<=bs.length) (hl:bs.length<=1000000):0<=(Qlu bs p n).2∧(Qlu bs p n).2<=bs.length:=by
 unfold Qlu;split
 ·exact h
 ·split
  ·exact h
  ·rw[w64 (by unfold I64;omega)];simp only;omega
theorem Qnk {H0:Qa} (b:Nat) (c:Rr) (bs:List Int) (n:Int) (H:Qa) (h:VF H0 H b c bs):Qh prog Wo [.pointer (some ⟨b,0,none⟩),.int .i64 n] H (Qa6 H b (Qlu bs c.p n).1 {c with p:=(Qlu bs c.p n).2}):=by
 refine QhF λhw=>?_;obtain⟨hw0,hx,lo,hc,fm,by_,len,p0⟩:=h;obtain⟨a,cap,hbv,hby⟩:=by_;have hbv':c.cells[10]? = some (.slice a bs.length cap):=by rw[QrX,hbv]
 have oc:=Wp.refl hc;have he:Qlu bs c.p n=if(bs.length:Int)<=c.p then(9,c.p) else if(IntKind.i64.wrap (bs.getD c.p.toNat 0)==n)=false then(4,c.p) else(0,IntKind.i64.wrap (c.p+1)):=rfl
 simp only[QbV,Qb,simprocAttr,hc,QkU,hbv']
 by_cases h1:(bs.length:Int)<=c.p
 ·rw[Lc h1]at he;simp only[h1,Nf,Qb,simprocAttr,Z9];exact .mk (Lb _) ⟨by rw[he],by rw[he];exact oc⟩
 ·rw[Le h1]at he;obtain⟨bb,o,e,ro,cs,rfl,hg,hcs⟩:=hby (by omega);have hg':H.get bb=some (.cells cs e ro):=(hx.get bb (hw0.lt hg)).trans hg;have c1:(0:Int)<=c.p∧c.p<bs.length:=by omega
  have g1:=hcs c.p.toNat (by omega);simp only[h1,NE,Qb,simprocAttr,hc,QkU,hbv',c1,hg',g1];cases q:IntKind.i64.wrap (bs.getD c.p.toNat 0)==n with
  | false=>
   rw[Lc q]at he;simp only[Qb,simprocAttr,Z9];exact .mk (Lb _) ⟨by rw[he],by rw[he];exact oc⟩
  | true=>
   rw[Le (by rw[q];decide)]at he;simp only[Qb,simprocAttr,hc,QkU,Xl,QwU,Z9];exact .mk (Lb _) ⟨by rw[he],by rw[he];exact oc.set _⟩
theorem QFB {a b c d:Value} {l:List Value} {H:Qa} {k:Value->Qa->Prop}:QAO (.tuple (a::b::c::d::l).toArray) 3 H k=k d H:=Qt
theorem rr7 (c:Rr):c.cells[7]? = some (.int .i64 c.x.f.w):=rfl
theorem QHW (c:Rr) (v:Bool):List.take 12 c.cells++(Value.bool v::List.drop 13 c.cells)=({c with rex:=v}:Rr).cells:=rfl
theorem QFC (c:Rr) (n:Int):List.take 13 c.cells++(Value.int .i64 n::List.drop 14 c.cells)=({c with r:=n}:Rr).cells:=rfl
theorem QFD (c:Rr) (n:Int):List.take 14 c.cells++(Value.int .i64 n::List.drop 15 c.cells)=({c with xx:=n}:Rr).cells:=rfl
theorem QFE (c:Rr) (n:Int):List.take 15 c.cells++(Value.int .i64 n::List.drop 16 c.cells)=({c with bb:=n}:Rr).cells:=rfl
def XI (bs:List Int) (p:Int):Int:=IntKind.i64.wrap (bs.getD p.toNat 0)
def QqQ (c:Rr) (m:Nat):Rr:={c with rex:=true,r:=Jl m 4 2,xx:=Jl m 4 1,bb:=Jl m 4 0,p:=IntKind.i64.wrap (c.p+1)}
def QcQ (c:Rr) (w:Int):Int×Rr:=if(!(w==c.x.f.w)||!ZB c.x.f c.r c.xx c.bb)=true then(4,c) else(0,c)
def Qcr (bs:List Int) (c:Rr):Int×Rr:=
 if(bs.length:Int)<=c.p then(9,c)
 else if(decide (64<=XI bs c.p)&&decide (XI bs c.p<=79))=true then QcQ (QqQ c (XI bs c.p - 64).toNat) (Jl (XI bs c.p - 64).toNat 4 3) else QcQ c 0
theorem QkV (c:Rr) (w:Int):(QcQ c w).2=c:=by unfold QcQ;split<;>rfl
theorem Qu6 {H0:Qa} (b:Nat) (c:Rr) (bs:List Int) (H:Qa) (h:VF H0 H b c bs) (hs:c.x.f.shapes.length=c.x.f.slots.length):Qh prog X0 [.pointer (some ⟨b,0,none⟩)] H (Qa6 H b (Qcr bs c).1 (Qcr bs c).2):=by
 refine QfQ λhw=>?_;obtain⟨hw0,hx,lo,hc,fm,by_,len,p0⟩:=id h;obtain⟨a,cap,hbv,hby⟩:=by_;have hbv':∀c':Rr,c'.bv=c.bv->c'.cells[10]? = some (.slice a bs.length cap):=λc' h=>by rw[QrX,h,hbv]
 have hbvc:=hbv' c rfl;have oc:=Wp.refl hc;obtain⟨r,hr⟩:∃r,r=Qcr bs c:=⟨_,rfl⟩;rw[<- hr];have he:r=if(bs.length:Int)<=c.p then(9,c)
  else if(decide (64<=XI bs c.p)&&decide (XI bs c.p<=79))=true then QcQ (QqQ c (XI bs c.p - 64).toNat) (Jl (XI bs c.p - 64).toNat 4 3) else QcQ c 0:=hr
 clear hr;have tail:∀ (c':Rr) (w:Int) (A:Env) (H1:Qa),A 0=.pointer (some ⟨b,0,none⟩)->A 3=.int .i64 w->Wp H H1 b c'->c'.x=c.x->r=QcQ c' w->Qn prog YH ⟨Rt prog Qac H (Qa6 H b r.1 r.2),X2⟩ (Rt prog Qac H (Qa6 H b r.1 r.2)) A H1:=by
  intro c' w A H1 a0 a3 oc1 hcx hr1;have hc1:=oc1.at_;have hxx:Ext H0 H1:=⟨N8 hx.next oc1.next,λid hid=>by rw[oc1.get id (N5 hid hx.next) (by omega),hx.get id hid]⟩;have qa:=Qn7 b c' H1 hc1 (by rw[hcx];exact fm.ext hw0 hxx) (by rw[hcx];exact hs);have hr2:r=if(!(w==c'.x.f.w)||!ZB c'.x.f c'.r c'.xx c'.bb)=true then(4,c') else(0,c'):=hr1
  clear hr1;simp only[YH,Qb,simprocAttr,a0,a3,hc1,rr7];cases q1:w==c'.x.f.w with
  | false=>
   rw[Lc (by rw[q1];rfl)]at hr2;simp only[Qb,simprocAttr,XF];exact .mk oc1.next ⟨by rw[hr2],by rw[hr2];exact oc1⟩
  | true=>
   simp only[Qb,simprocAttr,a0];refine qa.thenW ?_;rintro _ _ hn hw2 ⟨rfl,k,rfl⟩;have oc2:=oc1.up (show _<=k from hn);simp only[Qb,simprocAttr];cases q2:ZB c'.x.f c'.r c'.xx c'.bb with
   | false=>
    rw[Lc (by rw[q1,q2];rfl)]at hr2;simp only[Qb,simprocAttr,XF];exact .mk oc2.next ⟨by rw[hr2],by rw[hr2];exact oc2⟩
   | true=>
    rw[Le (by rw[q1,q2];decide)]at hr2;simp only[Qb,simprocAttr,XF];exact .mk oc2.next ⟨by rw[hr2],by rw[hr2];exact oc2⟩
 simp only[Vu,Qb,simprocAttr,hc,QkU,hbvc]
 by_cases h1:(bs.length:Int)<=c.p
 ·rw[Lc h1]at he;simp only[h1,Nf,Qb,simprocAttr,XF];exact .mk (Lb _) ⟨by rw[he],by rw[he];exact oc⟩
 ·rw[Le h1]at he;obtain⟨bb,o,e,ro,cs,rfl,hg,hcs⟩:=hby (by omega);have hg':H.get bb=some (.cells cs e ro):=(hx.get bb (hw0.lt hg)).trans hg;have c1:(0:Int)<=c.p∧c.p<bs.length:=by omega
  have g1:=hcs c.p.toNat (by omega);have hby:IntKind.i64.wrap (bs.getD c.p.toNat 0)=XI bs c.p:=rfl;simp only[h1,NE,KI,Qb,simprocAttr,hc,QkU,hbvc,c1,hg',g1,hby]
  by_cases q:(decide (64<=XI bs c.p)&&decide (XI bs c.p<=79))=true
  ·rw[Lc q]at he;obtain⟨q1,q2⟩:64<=XI bs c.p∧XI bs c.p<=79:=by simpa using q
   obtain⟨m,hm⟩:∃m:Nat,XI bs c.p=64+m:=⟨(XI bs c.p - 64).toNat,by omega⟩;have hm15:m<16:=by omega
   have em:IntKind.i64.wrap (XI bs c.p - 64)=(m:Int):=by rw[w64 (by unfold I64;omega)];omega
   have em2:(XI bs c.p - 64).toNat=m:=by omega
   rw[em2]at he;simp only[Lp q1,Lp q2,KH,Qb,simprocAttr,em];refine(QwT m hm15 H).thenW ?_;rintro _ H _ hw2 ⟨rfl,rfl⟩;simp only[Qb,simprocAttr,QFB,hc,QkU,Xl,QwU,QHW,QFC,QFD,QFE];refine tail (QqQ c m) _ _ _ ?_ ?_ ((((((oc.set _).set _).set _).set _).set (QqQ c m))) rfl he
   all_goals simp only[Qg,simprocAttr]
  ·rw[Le q]at he;cases q1:decide (64<=XI bs c.p) with
   | false=>
    simp only[Qb,simprocAttr];exact tail c 0 _ _ (by simp only[Qg,simprocAttr]) (by simp only[Qg,simprocAttr]) oc rfl he
   | true=>
    have q2:decide (XI bs c.p<=79)=false:=by simpa[q1] using q
    simp only[q2,Qb,simprocAttr];exact tail c 0 _ _ (by simp only[Qg,simprocAttr]) (by simp only[Qg,simprocAttr]) oc rfl he
def QqR (c n:Int):List Value:=[.int .i64 1,.int .i64 c,.int .i64 n,.int .i64 0,.int .i64 0,.int .i64 0,.int .i64 0,.int .i64 0,.int .i64 0,.int .i64 0,.int .i64 0]
def QFF (k n:Int):List Value:=[.int .i64 k,.int .i64 0,.int .i64 0,.int .i64 0,.int .i64 0,.int .i64 0,.int .i64 0,.int .i64 0,.int .i64 0,.int .i64 0,.int .i64 n]
def QA8 (s:Int):List Value:=if s=28 then QqR 1 0 else if s=29 then QqR 3 0 else if s=30 then QqR 4 0 else if s=31 then QqR 5 0 else if s=32 then QqR 1 1 else QFF 3 1
def QkW (H:Qa) (l:List Value):Value->Qa->Prop:=λu H'=>u=.agg l.toArray∧∃k,H'=H.up k
theorem QDs (s:Int) (H:Qa):Qh prog Qfy [.int .i64 s] H (QkW H (QA8 s)):=by
 refine Qpp λhw=>?_;have hx:=Ext.refl H;simp only[Qjr,Qb,simprocAttr,QhH]
 repeat' (first
   | (refine Qf (λh=>?_) (λh=>?_)<;>(try simp only[Lr,Lu]at h)<;>simp only[Qb,simprocAttr,QhH,h])
   | fail)
 all_goals refine Ret.ext hw ((hx.push _).set (Lb _) _) ⟨?_,_,rfl⟩
 all_goals (simp only[L0,LC,Da]at *;simp only[QA8];simp[*,QqR,QFF])
def Qzu (c:Rr) (s n:Int):Int:=bif (clF s==1)&&!c.rex&&!c.x.f.vex&&decide (4<=n)&&decide (n<=7) then 2 else clF s
theorem rr8 (c:Rr):c.cells[8]? = some (.bool c.x.f.vex):=rfl
theorem QwV (b:Nat) (c:Rr) (s n:Int) (H:Qa) (hc:H.get b=some (.cells c.cells We false)):Qh prog Wq [.pointer (some ⟨b,0,none⟩),.int .i64 s,.int .i64 n] H (QkW H (QqR (Qzu c s n) n)):=by
 refine Qgg λhw=>?_;have hx:=Ext.refl H;have hlt:=hw.lt hc;have hr:Qzu c s n=bif (clF s==1)&&!c.rex&&!c.x.f.vex&&decide (4<=n)&&decide (n<=7) then 2 else clF s:=rfl
 simp only[Qad,Qb,simprocAttr];refine(QhV s _).thenW ?_;rintro _ _ hn hw2 ⟨rfl,rfl⟩;generalize clF s=z at *;simp only[Qb,simprocAttr,Vv,hc,QG8,rr8];have hne:(b=H.next)=False:=by simp;omega
 cases b1:z==1<;>cases b2:c.rex<;>cases b3:c.x.f.vex<;>cases b4:decide (4<=n)<;>cases b5:decide (n<=7)<;>simp only[Qb,simprocAttr,hne,Vv,hc,QG8,rr8,b2,b3,b4,b5]
 all_goals refine Ret.ext hw ((hx.push _).set (Lb _) _) ⟨?_,_,rfl⟩
 all_goals (rw[hr,b1,b2,b3,b4,b5];rfl)
theorem rr5 (c:Rr):c.cells[5]? = some (.int .i64 c.x.f.code):=rfl
theorem rr6 (c:Rr):c.cells[6]? = some (.int .i64 c.x.f.digit):=rfl
theorem QG9 (c:Rr):c.cells[17]? = some (.int .i64 c.low):=rfl
theorem QHX (c:Rr) (n:Int):List.take 17 c.cells++(Value.int .i64 n::List.drop 18 c.cells)=({c with low:=n}:Rr).cells:=rfl
def QrY (bs:List Int) (p:Int):Int:=IntKind.i64.wrap (IntKind.u8.wrap (BitVec.ofInt IntKind.u8.bits (bs.getD p.toNat 0) &&& BitVec.ofInt IntKind.u8.bits 7).toNat)
def XC (bs:List Int) (c:Rr) (n:Int):Int×Rr:=((Qlu bs c.p n).1,{c with p:=(Qlu bs c.p n).2})
def opF (bs:List Int) (c:Rr):Int×Rr:=
 if(decide (QC c.x.f.slots 4<0))=true then XC bs c c.x.f.code
 else if(bs.length:Int)<=c.p then(9,c) else XC bs {c with low:=QrY bs c.p} (IntKind.i64.wrap (c.x.f.code+QrY bs c.p))
theorem QA9 {H0:Qa} (b:Nat) (c:Rr) (bs:List Int) (H:Qa) (h:VF H0 H b c bs):Qh prog YQ [.pointer (some ⟨b,0,none⟩)] H (Qa6 H b (opF bs c).1 (opF bs c).2):=by
 refine QhC λhw=>?_;obtain⟨hw0,hx,lo,hc,fm,by_,len,p0⟩:=id h;obtain⟨a,cap,hbv,hby⟩:=by_;have hbv':∀c':Rr,c'.bv=c.bv->c'.cells[10]? = some (.slice a bs.length cap):=λc' h=>by rw[QrX,h,hbv]
 have hbvc:=hbv' c rfl;obtain⟨r,hr⟩:∃r,r=opF bs c:=⟨_,rfl⟩;rw[<- hr];have he:r=if(decide (QC c.x.f.slots 4<0))=true then XC bs c c.x.f.code
  else if(bs.length:Int)<=c.p then(9,c) else XC bs {c with low:=QrY bs c.p} (IntKind.i64.wrap (c.x.f.code+QrY bs c.p)):=hr
 clear hr;have qs:=XS c.x 4 H (fm.ext hw0 hx);generalize QC c.x.f.slots 4=i4 at *;simp only[QbS,Qb,simprocAttr,hc,Xl,Y6];refine qs.thenW ?_;rintro _ _ hn hw2 ⟨rfl,k,rfl⟩;have h1:=h.up (show _<=k from hn);have oc:=(Wp.refl hc).up (show _<=k from hn);simp only[Qb,simprocAttr];cases q:decide (i4<0) with
 | true=>
  rw[Lc q]at he;simp only[Qb,simprocAttr,hc,rr5];refine(Qnk b c bs c.x.f.code _ h1).thenW ?_;rintro _ _ hn hw2 ⟨rfl,oc2⟩;simp only[Qb,simprocAttr,Z6];exact .mk (oc.trans oc2).next ⟨by rw[he,XC],by rw[he,XC];exact oc.trans oc2⟩
 | false=>
  rw[Le (by rw[q];decide)]at he;simp only[Qb,simprocAttr,hc,QkU,hbvc]
  by_cases g:(bs.length:Int)<=c.p
  ·rw[Lc g]at he;simp only[g,Nf,Qb,simprocAttr,Z6];exact .mk oc.next ⟨by rw[he],by rw[he];exact oc⟩
  ·rw[Le g]at he;obtain⟨bb,o,e,ro,cs,rfl,hg,hcs⟩:=hby (by omega);have hg':H.get bb=some (.cells cs e ro):=(hx.get bb (hw0.lt hg)).trans hg;have c1:(0:Int)<=c.p∧c.p<bs.length:=by omega
   have g1:=hcs c.p.toNat (by omega);simp only[g,NE,Qb,simprocAttr,hc,QkU,hbvc,c1,hg',g1,Xl,QHX];have hlow:IntKind.i64.wrap (IntKind.u8.wrap (BitVec.ofInt IntKind.u8.bits (bs.getD c.p.toNat 0) &&& BitVec.ofInt IntKind.u8.bits 7).toNat)=QrY bs c.p:=rfl;rw[hlow];simp only[Qb,simprocAttr,rr5,QG9];have oc1:=oc.set {c with low:=QrY bs c.p};refine(Qnk b {c with low:=QrY bs c.p} bs _ _ (h.only oc1 rfl rfl p0)).thenW ?_;rintro _ _ hn hw2 ⟨rfl,oc2⟩;simp only[Qb,simprocAttr,Z6];exact .mk (oc1.trans oc2).next ⟨by rw[he,XC],by rw[he,XC];exact oc1.trans oc2⟩
theorem Wp.ext {H H1 H2:Qa} {b:Nat} {c:Rr} (h:Wp H H1 b c) (hb:b<H.next) (hx:Ext H1 H2):Wp H H2 b c:=
 ⟨N8 h.next hx.next,λid hid hne=>by rw[hx.get id (N5 hid h.next),h.get id hid hne],by rw[hx.get b (N5 hb h.next),h.at_]⟩
def Qnl (f:Fm) (n s:Int):Bool:=!(decide (0<=f.digit)&&!(YM (QbE n 3) 7==f.digit))&&bif QbE n 6==3 then !(clF s==0) else !decide (szF s<0)
def Qcs (bs:List Int) (c:Rr):Int×Rr:=
 if decide (QC c.x.f.slots 2<0)=true then(0,c)
 else if(bs.length:Int)<=c.p then(9,c)
 else if Qnl c.x.f (XI bs c.p) (c.x.f.shapes.getD (QC c.x.f.slots 2).toNat 0)=false then(4,c)
 else if((rdF bs c.p c.xx c.bb).2==0)=false then((rdF bs c.p c.xx c.bb).2,c)
 else(0,{c with seen:=(rdF bs c.p c.xx c.bb).1,p:=(rdF bs c.p c.xx c.bb).1.ends})
theorem QqS {H0:Qa} (b:Nat) (c:Rr) (bs:List Int) (H:Qa) (h:VF H0 H b c bs) (hs:c.x.f.shapes.length=c.x.f.slots.length):Qh prog Zj [.pointer (some ⟨b,0,none⟩)] H (Qa6 H b (Qcs bs c).1 (Qcs bs c).2):=by
 refine QiL λhw=>?_;obtain⟨r,hr⟩:∃r,r=Qcs bs c:=⟨_,rfl⟩;rw[<- hr];have he:r=if decide (QC c.x.f.slots 2<0)=true then(0,c)
  else if(bs.length:Int)<=c.p then(9,c)
  else if Qnl c.x.f (XI bs c.p) (c.x.f.shapes.getD (QC c.x.f.slots 2).toNat 0)=false then(4,c)
  else if((rdF bs c.p c.xx c.bb).2==0)=false then((rdF bs c.p c.xx c.bb).2,c)
  else(0,{c with seen:=(rdF bs c.p c.xx c.bb).1,p:=(rdF bs c.p c.xx c.bb).1.ends}):=hr
 clear hr;obtain⟨hw0,hx,lo,hc,fm,by_,len,p0⟩:=id h;have byH:∀H':Qa,Ext H H'->QbC H' c.bv bs:=λH' hx'=>by
  obtain⟨a,cap,hbv,hby⟩:=by_;refine⟨a,cap,hbv,λhl=>?_⟩;obtain⟨bb,o,e,ro,cs,e1,hg,hcs⟩:=hby hl;have:=hw0.lt hg;exact⟨bb,o,e,ro,cs,e1,by rw[hx'.get bb (N5 this hx.next),hx.get bb this,hg],hcs⟩
 obtain⟨a,cap,hbv,hby⟩:=id by_;have hbv':∀c':Rr,c'.bv=c.bv->c'.cells[10]? = some (.slice a bs.length cap):=λc' h=>by rw[QrX,h,hbv]
 have hbvc:=hbv' c rfl;obtain⟨a1,c1,e1,s1⟩:=id fm.2.2.1;have hsv:c.cells[1]? = some (.slice a1 c.x.f.shapes.length c1):=by rw[rr1,e1]
 have hlt:=Qtr c.x.f.slots 2;have qs:=XS c.x 2 H (fm.ext hw0 hx);generalize QC c.x.f.slots 2=i2 at *;simp only[QcL,sxA,sxB,Nat.reduceBEq,Nat.reduceEqDiff,reduceCtorEq,mxA,mxB,Nat.reduceAdd,reduceIte,Nat.reduceLeDiff,splice,hc,Xl,Y6];refine qs.thenW ?_;rintro _ _ hn hw2 ⟨rfl,k,rfl⟩;have hk:H.next<=k:=hn;have oc:=(Wp.refl hc).up hk;have h1:=h.up (show _<=k from hn);simp only[QaQ,sxA,sxB,Nat.reduceBEq,Nat.reduceEqDiff,reduceCtorEq,mxA,mxB,Nat.reduceAdd,reduceIte,Nat.reduceLeDiff,splice];cases q:decide (i2<0) with
 | true=>
  rw[Lc q]at he;simp only[sxA,sxB,Nat.reduceBEq,Nat.reduceEqDiff,reduceCtorEq,mxA,mxB,Nat.reduceAdd,reduceIte,Nat.reduceLeDiff,splice,Wk];exact .mk oc.next ⟨by rw[he],by rw[he];exact oc⟩
 | false=>
  rw[Le (by rw[q];decide)]at he;have q0:0<=i2:=by have:=Ll q;omega
  simp only[sxA,sxB,Nat.reduceBEq,Nat.reduceEqDiff,reduceCtorEq,mxA,mxB,Nat.reduceAdd,reduceIte,Nat.reduceLeDiff,splice,hc,QkU,hbvc]
  by_cases g:(bs.length:Int)<=c.p
  ·rw[Lc g]at he;simp only[g,Nf,sxA,sxB,Nat.reduceBEq,Nat.reduceEqDiff,reduceCtorEq,mxA,mxB,Nat.reduceAdd,reduceIte,Nat.reduceLeDiff,splice,Wk];exact .mk oc.next ⟨by rw[he],by rw[he];exact oc⟩
  ·rw[Le g]at he;obtain⟨bb,o,e,ro,cs,rfl,hg,hcs⟩:=hby (by omega);have hg':H.get bb=some (.cells cs e ro):=(hx.get bb (hw0.lt hg)).trans hg;have c2:(0:Int)<=c.p∧c.p<bs.length:=by omega
   have g1:=hcs c.p.toNat (by omega);obtain⟨b1,t1,ro1,rfl,hb1⟩:=s1 (by omega);have hb1':H.get b1=some (.cells (ints c.x.f.shapes) t1 ro1):=(hx.get b1 (hw0.lt hb1)).trans hb1;have d1:(0:Int)<=i2∧i2<c.x.f.shapes.length:=by omega
   have g2:=XQ (l:=c.x.f.shapes) (i:=i2.toNat) (by omega);have hby:IntKind.i64.wrap (bs.getD c.p.toNat 0)=XI bs c.p:=rfl;generalize hn:XI bs c.p=n at *;generalize hss:c.x.f.shapes.getD i2.toNat 0=s at *;simp only[g,NE,QaP,sxA,sxB,Nat.reduceBEq,Nat.reduceEqDiff,reduceCtorEq,mxA,mxB,Nat.reduceAdd,reduceIte,Nat.reduceLeDiff,splice,hc,QkU,hbvc,c2,hg',g1,hsv,d1,hb1',g2,hby,rr6];have hok:Qnl c.x.f n s=(!(decide (0<=c.x.f.digit)&&!(YM (QbE n 3) 7==c.x.f.digit))&&bif QbE n 6==3 then !(clF s==0) else !decide (szF s<0)):=rfl;have last:Qnl c.x.f n s=true->∀ (A:Env),A 0=.pointer (some ⟨b,0,none⟩)->Qn prog Z7 ⟨Rt prog Zp H (Qa6 H b r.1 r.2),X2⟩ (Rt prog Zp H (Qa6 H b r.1 r.2)) A (H.up k):=by
    intro ok A a0;rw[Le (by rw[ok];decide)]at he;simp only[Z7,QaO,sxA,sxB,Nat.reduceBEq,Nat.reduceEqDiff,reduceCtorEq,mxA,mxB,Nat.reduceAdd,reduceIte,Nat.reduceLeDiff,splice,a0,hc,QkU,QrX,Qpw,Qn6];refine(Qtq _ c.bv bs (byH _ ((Ext.refl H).up hk)) len c.p c.xx c.bb (by unfold I64;omega)).thenW ?_;rintro _ _ hn2 hw2 ⟨rfl,k2,rfl⟩;have hk2:k<=k2:=hn2;generalize rdF bs c.p c.xx c.bb=m at *;have sl:m.1.cells.length=10:=rfl;have s9:m.1.cells[9]? = some (.int .i64 m.1.ends):=rfl;have hne:(b=k2)=False:=by simp;have:=hw.lt hc;omega
    simp only[sxA,sxB,Nat.reduceBEq,Nat.reduceEqDiff,reduceCtorEq,mxA,mxB,Nat.reduceAdd,reduceIte,Nat.reduceLeDiff,splice,sl];have ocx:=λB C=>oc.ext (hw.lt hc) ((((Ext.refl (H.up k)).up (show _<=k2 from hn2)).push B).set (show(H.up k).next<=k2 from hn2) C);cases z:m.2==0 with
    | false=>
     rw[Lc z]at he;simp only[sxA,sxB,Nat.reduceBEq,Nat.reduceEqDiff,reduceCtorEq,mxA,mxB,Nat.reduceAdd,reduceIte,Nat.reduceLeDiff,splice,Wk,z];exact⟨rfl,.mk (ocx _ _).next ⟨by rw[he],by rw[he];exact ocx _ _⟩⟩
    | true=>
     rw[Le (by rw[z];decide)]at he;simp only[sxA,sxB,Nat.reduceBEq,Nat.reduceEqDiff,reduceCtorEq,mxA,mxB,Nat.reduceAdd,reduceIte,Nat.reduceLeDiff,splice,Wk,z,hne,hc,Xl,s9,QwU];refine⟨rfl,FM sl.symm,rfl,?_⟩;simp only[sxA,sxB,Nat.reduceBEq,Nat.reduceEqDiff,reduceCtorEq,mxA,mxB,Nat.reduceAdd,reduceIte,Nat.reduceLeDiff,splice,Wk,a0,hne,hc,Xl,s9,QwU];refine⟨⟨rfl,Lb _,rfl⟩,by have:=hw.lt hc;omega,show 12<=28 by omega,?_⟩;have of:=λB C=>((ocx B C).set {c with seen:=m.1}).set {c with seen:=m.1,p:=m.1.ends};exact .mk (of _ _).next ⟨by rw[he],by rw[he];exact of _ _⟩
   have tail:((decide (0<=c.x.f.digit)&&!(YM (QbE n 3) 7==c.x.f.digit))=false)->∀ (A:Env),A 0=.pointer (some ⟨b,0,none⟩)->A 4=.int .i64 n->A 5=.int .i64 s->Qn prog Z8 ⟨Rt prog Zp H (Qa6 H b r.1 r.2),X2⟩ (Rt prog Zp H (Qa6 H b r.1 r.2)) A (H.up k):=by
    intro t1 A a0 a4 a5;have h6:(0:Int)<=6:=by omega
    have h63:n.fdiv (2 ^ min (Int.toNat 6) IntKind.i64.bits)=QbE n 6:=rfl;rw[t1]at hok;simp only[Z8,sxA,sxB,Nat.reduceBEq,Nat.reduceEqDiff,reduceCtorEq,mxA,mxB,Nat.reduceAdd,reduceIte,Nat.reduceLeDiff,splice,a0,a4,a5,h6,h63];cases z3:QbE n 6==3 with
    | true=>
     simp only[sxA,sxB,Nat.reduceBEq,Nat.reduceEqDiff,reduceCtorEq,mxA,mxB,Nat.reduceAdd,reduceIte,Nat.reduceLeDiff,splice,a5];refine(QhV s _).thenW ?_;rintro _ _ hn2 hw2 ⟨rfl,rfl⟩;cases z4:clF s==0 with
     | true=>
      rw[z3,z4]at hok;rw[Lc (by rw[hok];rfl)]at he;simp only[sxA,sxB,Nat.reduceBEq,Nat.reduceEqDiff,reduceCtorEq,mxA,mxB,Nat.reduceAdd,reduceIte,Nat.reduceLeDiff,splice,z4,Wk];exact .mk oc.next ⟨by rw[he],by rw[he];exact oc⟩
     | false=>
      rw[z3,z4]at hok;simp only[sxA,sxB,Nat.reduceBEq,Nat.reduceEqDiff,reduceCtorEq,mxA,mxB,Nat.reduceAdd,reduceIte,Nat.reduceLeDiff,splice,z4,h6,h63,z3,a4];refine last (by rw[hok];rfl) _ ?_;simp only[uxA,uxB,Nat.reduceBEq,a0]
    | false=>
     simp only[sxA,sxB,Nat.reduceBEq,Nat.reduceEqDiff,reduceCtorEq,mxA,mxB,Nat.reduceAdd,reduceIte,Nat.reduceLeDiff,splice,h6,h63,z3,a4,a5];refine(Qez s _).thenW ?_;rintro _ _ hn hw2 ⟨rfl,rfl⟩;cases z4:decide (szF s<0) with
     | true=>
      rw[z3,z4]at hok;rw[Lc (by rw[hok];rfl)]at he;simp only[sxA,sxB,Nat.reduceBEq,Nat.reduceEqDiff,reduceCtorEq,mxA,mxB,Nat.reduceAdd,reduceIte,Nat.reduceLeDiff,splice,z4,Wk];exact .mk oc.next ⟨by rw[he],by rw[he];exact oc⟩
     | false=>
      rw[z3,z4]at hok;simp only[sxA,sxB,Nat.reduceBEq,Nat.reduceEqDiff,reduceCtorEq,mxA,mxB,Nat.reduceAdd,reduceIte,Nat.reduceLeDiff,splice,z4];refine last (by rw[hok];rfl) _ ?_;simp only[uxA,uxB,Nat.reduceBEq,a0]
   have h3:(0:Int)<=3:=by omega
   have h33:IntKind.i64.wrap (BitVec.ofInt IntKind.i64.bits (n.fdiv (2 ^ min (Int.toNat 3) IntKind.i64.bits)) &&& BitVec.ofInt IntKind.i64.bits 7).toNat=YM (QbE n 3) 7:=rfl;cases z1:decide (0<=c.x.f.digit) with
   | false=>
    simp only[sxA,sxB,Nat.reduceBEq,Nat.reduceEqDiff,reduceCtorEq,mxA,mxB,Nat.reduceAdd,reduceIte,Nat.reduceLeDiff,splice];refine tail (by rw[z1];rfl) _ ?_ ?_ ?_
    all_goals simp only[uxA,uxB,Nat.reduceBEq]
   | true=>
    simp only[sxA,sxB,Nat.reduceBEq,Nat.reduceEqDiff,reduceCtorEq,mxA,mxB,Nat.reduceAdd,reduceIte,Nat.reduceLeDiff,splice,hc,rr6,h3,h33];cases z2:YM (QbE n 3) 7==c.x.f.digit with
    | false=>
     rw[z1,z2]at hok;rw[Lc (by rw[hok];rfl)]at he;simp only[sxA,sxB,Nat.reduceBEq,Nat.reduceEqDiff,reduceCtorEq,mxA,mxB,Nat.reduceAdd,reduceIte,Nat.reduceLeDiff,splice,Wk];exact .mk oc.next ⟨by rw[he],by rw[he];exact oc⟩
    | true=>
     simp only[sxA,sxB,Nat.reduceBEq,Nat.reduceEqDiff,reduceCtorEq,mxA,mxB,Nat.reduceAdd,reduceIte,Nat.reduceLeDiff,splice];refine tail (by rw[z1,z2];rfl) _ ?_ ?_ ?_
     all_goals simp only[uxA,uxB,Nat.reduceBEq]
abbrev tA2:TypeId:=133
abbrev tA3:TypeId:=134
def Y9 (i:Nat):Int:=if i=0 then 1 else if i=1 then 2 else 4
def VX (i:Nat):Int:=if i=0 then 102 else if i=1 then 242 else 243
def Qf3 (x y:Int):Value:=.agg #[.int .i64 x,.int .i64 y]
def QwW:Value:=.agg #[.int .i64 1,.int .i64 102,.int .i64 2,.int .i64 242,.int .i64 4,.int .i64 243]
section
variable {A:Env} {H:Qa} {k:Value->Qa->Prop}
theorem QDu:pr prog (.gen (.build tA2 #[(0,(.const (.int .i64 1))),(1,(.const (.int .i64 102)))])) false A H k=k (Qf3 1 102) H:=by
 have e:rop prog (.gen (.build tA2 #[(0,(.const (.int .i64 1))),(1,(.const (.int .i64 102)))])) A H=some (Qf3 1 102,H):=by kernel_rfl
 refine(Wl _).trans ?_;rw[e,Qt]
theorem QDv:pr prog (.gen (.build tA2 #[(0,(.const (.int .i64 2))),(1,(.const (.int .i64 242)))])) false A H k=k (Qf3 2 242) H:=by
 have e:rop prog (.gen (.build tA2 #[(0,(.const (.int .i64 2))),(1,(.const (.int .i64 242)))])) A H=some (Qf3 2 242,H):=by kernel_rfl
 refine(Wl _).trans ?_;rw[e,Qt]
theorem QDw:pr prog (.gen (.build tA2 #[(0,(.const (.int .i64 4))),(1,(.const (.int .i64 243)))])) false A H k=k (Qf3 4 243) H:=by
 have e:rop prog (.gen (.build tA2 #[(0,(.const (.int .i64 4))),(1,(.const (.int .i64 243)))])) A H=some (Qf3 4 243,H):=by kernel_rfl
 refine(Wl _).trans ?_;rw[e,Qt]
theorem QFG:pr prog (.gen (.build tA3 #[(0,(t 16)),(1,(t 17)),(2,(t 18))])) false (upd (upd (upd A 16 (Qf3 1 102)) 17 (Qf3 2 242)) 18 (Qf3 4 243)) H k=k QwW H:=by
 have e:rop prog (.gen (.build tA3 #[(0,(t 16)),(1,(t 17)),(2,(t 18))])) (upd (upd (upd A 16 (Qf3 1 102)) 17 (Qf3 2 242)) 18 (Qf3 4 243)) H=some (QwW,H):=by kernel_rfl
 refine(Wl _).trans ?_;rw[e,Qt]
theorem QDx {x y:Operand} (i:Nat) (hi:i<3) (hx:ev A x=QwW) (hy:ev A y=.int .i64 i):pr prog (.gen (.index tA3 x y)) false A H k=k (Qf3 (Y9 i) (VX i)) H:=by
 have e0:rop prog (.gen (.index tA3 x y)) A H=rop prog (.gen (.index tA3 (.const QwW) (.const (.int .i64 i)))) A H:=by
  have h1:ev A (.const QwW)=QwW:=rfl;have h2:ev A (.const (.int .i64 i))=.int .i64 i:=rfl;simp only[rop,aop,QmR,hx,hy,h1,h2]
 have e:rop prog (.gen (.index tA3 x y)) A H=some (Qf3 (Y9 i) (VX i),H):=by
  rw[e0];obtain rfl | rfl | rfl:i=0∨i=1∨i=2:=by omega
  all_goals kernel_rfl
 refine(Wl _).trans ?_;rw[e,Qt]
theorem QHa {x:Operand} (B:Nat) (i:Nat) (hi:i<2) (hx:ev A x=.pointer (some ⟨B,0,none⟩)):pr prog (.gen (.indexAddr tA2 x (.const (.int .i64 i)))) false A H k=k (.pointer (some ⟨B,i,none⟩)) H:=by
 have e0:rop prog (.gen (.indexAddr tA2 x (.const (.int .i64 i)))) A H=rop prog (.gen (.indexAddr tA2 (.const (.pointer (some ⟨B,0,none⟩))) (.const (.int .i64 i)))) A H:=by
  have h1:ev A (.const (.pointer (some ⟨B,0,none⟩)))=.pointer (some ⟨B,0,none⟩):=rfl;simp only[rop,aop,G4,hx,h1]
 have e:rop prog (.gen (.indexAddr tA2 x (.const (.int .i64 i)))) A H=some (.pointer (some ⟨B,i,none⟩),H):=by
  rw[e0];obtain rfl | rfl:i=0∨i=1:=by omega
  all_goals kernel_rfl
 refine(Wl _).trans ?_;rw[e,Qt]
theorem QDy {ty:TypeId} (ht:prog.underlying ty=some .string) {x:Operand} {s:ByteArray} (hx:ev A x=.string s):pr prog (.gen (.range ty x)) false A H k=k (.pointer (some ⟨H.next,0,none⟩)) (H.push (.iter s 0)):=by
 have e:rop prog (.gen (.range ty x)) A H=some (.pointer (some ⟨H.next,0,none⟩),H.push (.iter s 0)):=by
  simp only[rop,aop,QpN,hx,ht]
 refine(Wl _).trans ?_;rw[e,Qt]
theorem QFH {x:Operand} {b p:Nat} {s:ByteArray} (hx:ev A x=.pointer (some ⟨b,0,none⟩)) (hg:H.get b=some (.iter s p)):pr prog (.gen (.next x true)) false A H k=if p<s.size then k (.tuple #[.bool true,.int .i64 p,.int .i32 (Utf8.decode s p).1]) (H.set b (.iter s (p+(Utf8.decode s p).2))) else k (.tuple #[.bool false]) H:=by
 by_cases hp:p<s.size
 ·have e:rop prog (.gen (.next x true)) A H=some (.tuple #[.bool true,.int .i64 p,.int .i32 (Utf8.decode s p).1],H.set b (.iter s (p+(Utf8.decode s p).2))):=by
   simp only[rop,aop,hx,Qsk,hg,hp,N3];rfl
  rw[Lc hp];refine(Wl _).trans ?_;rw[e,Qt]
 ·have e:rop prog (.gen (.next x true)) A H=some (.tuple #[.bool false],H):=by
   simp only[rop,aop,hx,Qsk,hg,hp,LN];rfl
  rw[Le hp];refine(Wl _).trans ?_;rw[e,Qt]
end
theorem QBb (n:Int):(mkS (Qfg n)).size=(Qfg n).length:=rfl
theorem QBc (n:Int):Qfg n=[15]∨Qfg n=[15,56]∨Qfg n=[15,58]∨Qfg n=[]:=by
 unfold Qfg;cases(n==1)<;>cases(n==2)<;>cases(n==3)<;>simp
theorem QFI (n:Int) (j:Nat) (h:j<(Qfg n).length):Utf8.decode (mkS (Qfg n)) j=(((Qfg n).getD j 0).toNat,1):=by
 rcases QBc n with e | e | e | e<;>rw[e]at h ⊢<;>simp only[Lo,L9]at h
 ·obtain rfl:j=0:=by omega
  kernel_rfl
 ·obtain rfl | rfl:j=0∨j=1:=by omega
  ·kernel_rfl
  ·kernel_rfl
 ·obtain rfl | rfl:j=0∨j=1:=by omega
  ·kernel_rfl
  ·kernel_rfl
 ·omega
def Qpx (a b:Int):Int:=IntKind.i64.wrap (BitVec.ofInt IntKind.i64.bits a &&& ~~~BitVec.ofInt IntKind.i64.bits b).toNat
theorem QwX (x:BitVec 64):BitVec.ofInt 64 (IntKind.i64.wrap x.toNat)=x:=by
 have hx:=x.isLt;apply Fu;rw[B7,NU];omega
theorem QDz (l a b:Int):YM (Qpx l a) b=IntKind.i64.wrap ((BitVec.ofInt 64 l &&& (~~~BitVec.ofInt 64 a &&& BitVec.ofInt 64 b)).toNat:Nat):=by
 show IntKind.i64.wrap ((BitVec.ofInt 64 (IntKind.i64.wrap ((BitVec.ofInt 64 l &&& ~~~BitVec.ofInt 64 a).toNat:Nat)) &&& BitVec.ofInt 64 b).toNat:Nat)=_;rw[QwX,BitVec.and_assoc]
def hit (left:Int) (i:Nat):Bool:=!(YM left (Y9 i)==0)
theorem Qts (l:Int) (i j:Nat) (hi:i<3) (hj:j<3):hit (Qpx l (Y9 i)) j=if i=j then false else hit l j:=by
 unfold hit;rw[QDz];have z:IntKind.i64.wrap ((BitVec.ofInt 64 l &&& 0#64).toNat:Nat)=0:=by rw[BitVec.and_zero];rfl
 have e:∀b,YM l b=IntKind.i64.wrap ((BitVec.ofInt 64 l &&& BitVec.ofInt 64 b).toNat:Nat):=λb=>rfl;obtain rfl | rfl | rfl:i=0∨i=1∨i=2:=by omega
 all_goals obtain rfl | rfl | rfl:j=0∨j=1∨j=2:=by omega
 all_goals first
  | (rw[show(~~~BitVec.ofInt 64 (Y9 0) &&& BitVec.ofInt 64 (Y9 0))=0#64 by decide,z];rfl)
  | (rw[show(~~~BitVec.ofInt 64 (Y9 1) &&& BitVec.ofInt 64 (Y9 1))=0#64 by decide,z];rfl)
  | (rw[show(~~~BitVec.ofInt 64 (Y9 2) &&& BitVec.ofInt 64 (Y9 2))=0#64 by decide,z];rfl)
  | (rw[show(~~~BitVec.ofInt 64 (Y9 0) &&& BitVec.ofInt 64 (Y9 1))=BitVec.ofInt 64 (Y9 1) by decide,e];rfl)
  | (rw[show(~~~BitVec.ofInt 64 (Y9 0) &&& BitVec.ofInt 64 (Y9 2))=BitVec.ofInt 64 (Y9 2) by decide,e];rfl)
  | (rw[show(~~~BitVec.ofInt 64 (Y9 1) &&& BitVec.ofInt 64 (Y9 0))=BitVec.ofInt 64 (Y9 0) by decide,e];rfl)
  | (rw[show(~~~BitVec.ofInt 64 (Y9 1) &&& BitVec.ofInt 64 (Y9 2))=BitVec.ofInt 64 (Y9 2) by decide,e];rfl)
  | (rw[show(~~~BitVec.ofInt 64 (Y9 2) &&& BitVec.ofInt 64 (Y9 0))=BitVec.ofInt 64 (Y9 0) by decide,e];rfl)
  | (rw[show(~~~BitVec.ofInt 64 (Y9 2) &&& BitVec.ofInt 64 (Y9 1))=BitVec.ofInt 64 (Y9 1) by decide,e];rfl)
def cnt (l:Int):Nat:=(hit l 0).toNat+(hit l 1).toNat+(hit l 2).toNat
theorem QFJ (l:Int):cnt l<=3:=by
 unfold cnt;cases hit l 0<;>cases hit l 1<;>cases hit l 2<;>decide
theorem QDA (l:Int) (i:Nat) (hi:i<3) (h:hit l i=true):cnt (Qpx l (Y9 i))+1=cnt l:=by
 unfold cnt;rw[Qts l i 0 hi (by omega),Qts l i 1 hi (by omega),Qts l i 2 hi (by omega)];obtain rfl | rfl | rfl:i=0∨i=1∨i=2:=by omega
 all_goals (rw[h];simp;try omega)
def QkX (bs:List Int):Nat->Int->Rr->Int×Rr
 | 0,_,c=>(0,c)
 | n+1,left,c=>
  let go:=λi=>if((XC bs c (VX i)).1==0)=true then QkX bs n (Qpx left (Y9 i)) (XC bs c (VX i)).2 else XC bs c (VX i)
  if hit left 0=true then go 0 else if hit left 1=true then go 1 else if hit left 2=true then go 2 else(0,c)
theorem QbY (bs:List Int) (n:Nat) (left:Int) (c:Rr):QkX bs (n+1) left c =
  if hit left 0=true then(if((XC bs c (VX 0)).1==0)=true then QkX bs n (Qpx left (Y9 0)) (XC bs c (VX 0)).2 else XC bs c (VX 0))
  else if hit left 1=true then(if((XC bs c (VX 1)).1==0)=true then QkX bs n (Qpx left (Y9 1)) (XC bs c (VX 1)).2 else XC bs c (VX 1))
  else if hit left 2=true then(if((XC bs c (VX 2)).1==0)=true then QkX bs n (Qpx left (Y9 2)) (XC bs c (VX 2)).2 else XC bs c (VX 2))
  else(0,c):=rfl
theorem QBd (bs:List Int) (n:Nat) (left:Int) (c:Rr) (i:Nat) (hi:i<3) (h0:∀j,j<i->hit left j=false) (h:hit left i=true):
  QkX bs (n+1) left c=if((XC bs c (VX i)).1==0)=true then QkX bs n (Qpx left (Y9 i)) (XC bs c (VX i)).2 else XC bs c (VX i):=by
 obtain rfl | rfl | rfl:i=0∨i=1∨i=2:=by omega
 ·rw[QbY,Lc h]
 ·rw[QbY,Le (by rw[h0 0 (by omega)];decide),Lc h]
 ·rw[QbY,Le (by rw[h0 0 (by omega)];decide),Le (by rw[h0 1 (by omega)];decide),Lc h]
theorem Qzw (bs:List Int) (n:Nat) (left:Int) (c:Rr) (h0:∀j,j<3->hit left j=false):QkX bs n left c=(0,c):=by
 cases n with
 | zero=>rfl
 | succ n=>rw[QbY,Le (by rw[h0 0 (by omega)];decide),Le (by rw[h0 1 (by omega)];decide),Le (by rw[h0 2 (by omega)];decide)]
def Qnm (bs:List Int):List UInt8->Rr->Int×Rr
 | [],c=>(0,c)
 | n::l,c=>if((XC bs c n.toNat).1==0)=true then Qnm bs l (XC bs c n.toNat).2 else XC bs c n.toNat
def Qnn (bs:List Int) (c:Rr):Int×Rr:=if((Qcr bs c).1==0)=true then Qnm bs (Qfg (Qcr bs c).2.x.f.map) (Qcr bs c).2 else Qcr bs c
def Qo2 (bs:List Int) (e:Int×Rr):Int×Rr:=if(e.1==0)=true then Qnn bs e.2 else e
def QjW (bs:List Int) (c:Rr):Int×Rr:=Qo2 bs (QkX bs 4 c.x.f.pre c)
theorem QBe {bs:List Int} {c:Rr} (h:0<=c.p∧c.p<=bs.length) (hl:bs.length<=1000000):0<=(Qcr bs c).2.p∧(Qcr bs c).2.p<=bs.length:=by
 unfold Qcr;split
 ·exact h
 ·split
  ·rw[QkV];show 0<=IntKind.i64.wrap (c.p+1)∧IntKind.i64.wrap (c.p+1)<=bs.length;rw[w64 (by unfold I64;omega)];omega
  ·rw[QkV];exact h
theorem Qtt (bs:List Int) (c:Rr):(Qcr bs c).2.x=c.x∧(Qcr bs c).2.bv=c.bv:=by
 unfold Qcr;split
 ·exact⟨rfl,rfl⟩
 ·split<;>rw[QkV]<;>exact⟨rfl,rfl⟩
theorem rr3 (c:Rr):c.cells[3]? = some (.int .i64 c.x.f.pre):=rfl
theorem rr4 (c:Rr):c.cells[4]? = some (.int .i64 c.x.f.map):=rfl
theorem QHb:J0+0≠1∧J0+0≠0∧J0+0≠2:=by unfold J0;omega
theorem VF.put {H0 H:Qa} {b:Nat} {c:Rr} {bs:List Int} (h:VF H0 H b c bs) {i:Nat} (hi:H0.next<=i) (hne:i≠b) (B:Blk):VF H0 (H.set i B) b c bs:=
 ⟨h.wf,h.hx.set hi B,h.lo,by rw[Qm,Le (λe=>hne e.symm)];exact h.at_,h.fm,h.by_,h.len,h.p0⟩
theorem Wp.put {H H':Qa} {b:Nat} {c:Rr} (h:Wp H H' b c) {i:Nat} (hi:H.next<=i) (hne:i≠b) (B:Blk):Wp H (H'.set i B) b c:=
 ⟨h.next,λid hid hn=>by rw[Qm,Le (by omega)];exact h.get id hid hn,by rw[Qm,Le (λe=>hne e.symm)];exact h.at_⟩
theorem QDB {H0 H:Qa} (b:Nat) (bs:List Int) (c:Rr) (r:Int×Rr) (e:Nat->Env->Qa->Prop) (A:Env) (H1:Qa) (hw:H.Wf) (hw1:H1.Wf) (a0:A 0=.pointer (some ⟨b,0,none⟩)) (h1:VF H0 H1 b c bs) (oc:Wp H H1 b c) (hb:b<H.next) (hs:c.x.f.shapes.length=c.x.f.slots.length) (hr:r=Qnn bs c):
  Qn prog Zz ⟨Rt prog Y3 H (Qa6 H b r.1 r.2),e⟩ (Rt prog Y3 H (Qa6 H b r.1 r.2)) A H1:=by
 have hr1:r=if((Qcr bs c).1==0)=true then Qnm bs (Qfg (Qcr bs c).2.x.f.map) (Qcr bs c).2 else Qcr bs c:=hr
 clear hr;simp only[Zz,V8,sxA,sxB,Nat.reduceBEq,Nat.reduceEqDiff,reduceCtorEq,mxA,mxB,Nat.reduceAdd,reduceIte,Nat.reduceLeDiff,splice,a0];refine(Qu6 b c bs H1 h1 hs).thenW ?_;rintro _ H2 hn hw2 ⟨rfl,oc2⟩;have h2:=h1.only oc2 (Qtt bs c).1 (Qtt bs c).2 (QBe h1.p0 h1.len);have oc3:=oc.trans oc2;generalize Qcr bs c=x at *;obtain⟨x1,c2⟩:=x;simp only at hr1 h2 oc3 oc2;cases q:x1==0 with
 | false=>
  rw[Le (by rw[q];decide)]at hr1;simp only[sxA,sxB,Nat.reduceBEq,Nat.reduceEqDiff,reduceCtorEq,mxA,mxB,Nat.reduceAdd,reduceIte,Nat.reduceLeDiff,splice,Yp,q];exact .mk oc3.next ⟨by rw[hr1],by rw[hr1];exact oc3⟩
 | true=>
  rw[Lc q]at hr1;simp only[sxA,sxB,Nat.reduceBEq,Nat.reduceEqDiff,reduceCtorEq,mxA,mxB,Nat.reduceAdd,reduceIte,Nat.reduceLeDiff,splice,a0,q,h2.at_,rr4];refine(QjB c2.x.f.map H2).thenW ?_;rintro _ H3 hn3 hw3 ⟨rfl,rfl⟩;have hl:=QBb c2.x.f.map;have ha:=QFI c2.x.f.map;generalize Qfg c2.x.f.map=l at *;have tS:prog.underlying 9=some .string:=by kernel_rfl
  simp only[sxA,sxB,Nat.reduceBEq,Nat.reduceEqDiff,reduceCtorEq,mxA,mxB,Nat.reduceAdd,reduceIte,Nat.reduceLeDiff,splice];rw[QDy tS (s:=mkS l) (by simp only[uxA,uxB,Nat.reduceBEq])];simp only[sxA,sxB,Nat.reduceBEq,Nat.reduceEqDiff,reduceCtorEq,mxA,mxB,Nat.reduceAdd,reduceIte,Nat.reduceLeDiff,splice];have hw4:=hw3.push (.iter (mkS l) 0);refine QE (λm A' H'=>∃ (j:Nat) (c':Rr),j<=l.length∧m=l.length - j∧A' 0=.pointer (some ⟨b,0,none⟩)∧A' 51=.pointer (some ⟨H3.next,0,none⟩)∧H'.Wf∧H3.next<H'.next∧H'.get H3.next=some (.iter (mkS l) j)∧VF H0 H' b c' bs∧Wp H H' b c'∧r=Qnm bs (l.drop j) c') l.length ?_ ?_
  ·refine⟨0,c2,L7 _,by omega,?_,?_,hw4,?_,?_,?_,?_,hr1⟩
   ·simp only[uxA,uxB,Nat.reduceBEq,a0]
   ·simp only[uxA,uxB,Nat.reduceBEq]
   ·simp only[Ql];omega
   ·rw[Qi,Lc rfl]
   ·exact h2.only (Wp.refl h2.at_ |>.ext (hw3.lt h2.at_) ((Ext.refl H3).push _)) rfl rfl h2.p0
   ·exact oc3.ext hb ((Ext.refl H3).push _)
  ·rintro m A' H' ⟨j,c',hj,rfl,r0,r51,hw',hlt,hg,hrd,hoc,hrr⟩;simp only[V7,V6,sxA,sxB,Nat.reduceBEq,Nat.reduceEqDiff,reduceCtorEq,mxA,mxB,Nat.reduceAdd,reduceIte,Nat.reduceLeDiff,splice];rw[QFH (A:=A') (x:=t 51) (b:=H3.next) (p:=j) (s:=mkS l) (by simp only[uxA,uxB,Nat.reduceBEq,r51]) hg];have hHb:H.next<=H3.next:=oc3.next;have hneb:H3.next≠b:=by omega
   have hH0:H0.next<=H3.next:=by have:=h2.hx.next;omega
   by_cases hjl:j<l.length
   ·rw[Lc (by rw[hl];exact hjl),ha j hjl];have hd:l.drop j=l.getD j 0::l.drop (j+1):=by
     rw[Nh hjl,LX,La hjl];rfl
    generalize l.getD j 0=x at *;have hx256:x.toNat<256:=x.toNat_lt;have hwx:IntKind.i64.wrap ((x.toNat:Nat):Int)=x.toNat:=w64 (by unfold I64;omega);have hr4:=hrd.put hH0 hneb (.iter (mkS l) (j+1));have ho4:=hoc.put hHb hneb (.iter (mkS l) (j+1));have hg4:(H'.set H3.next (.iter (mkS l) (j+1))).get H3.next=some (.iter (mkS l) (j+1)):=by rw[Qm,Lc rfl]
    have hn4:H3.next<(H'.set H3.next (.iter (mkS l) (j+1))).next:=hlt;rw[hd]at hrr;have hrr2:r=if((XC bs c' x.toNat).1==0)=true then Qnm bs (l.drop (j+1)) (XC bs c' x.toNat).2 else XC bs c' x.toNat:=hrr
    clear hrr;generalize H'.set H3.next (.iter (mkS l) (j+1))=H4 at *;simp only[sxA,sxB,Nat.reduceBEq,Nat.reduceEqDiff,reduceCtorEq,mxA,mxB,Nat.reduceAdd,reduceIte,Nat.reduceLeDiff,splice,r0,hwx];refine(Qnk b c' bs x.toNat H4 hr4).thenW ?_;rintro _ H5 hn5 hw5 ⟨rfl,oc5⟩;have h5:=hr4.only oc5 rfl rfl (QqP hr4.p0 hr4.len);have oc6:=ho4.trans oc5;have hg5:H5.get H3.next=some (.iter (mkS l) (j+1)):=by rw[oc5.get _ hn4 hneb];exact hg4
    have hz:(XC bs c' x.toNat).1=(Qlu bs c'.p x.toNat).1:=rfl;have hz2:(XC bs c' x.toNat).2={c' with p:=(Qlu bs c'.p x.toNat).2}:=rfl;rw[<- hz];rw[<- hz2]at h5 oc6;cases z:(XC bs c' x.toNat).1==0 with
    | false=>
     rw[Le (by rw[z];decide)]at hrr2;simp only[sxA,sxB,Nat.reduceBEq,Nat.reduceEqDiff,reduceCtorEq,mxA,mxB,Nat.reduceAdd,reduceIte,Nat.reduceLeDiff,splice,z,Yp];exact .mk oc6.next ⟨by rw[hrr2],by rw[hrr2];exact oc6⟩
    | true=>
     rw[Lc z]at hrr2;simp only[sxA,sxB,Nat.reduceBEq,Nat.reduceEqDiff,reduceCtorEq,mxA,mxB,Nat.reduceAdd,reduceIte,Nat.reduceLeDiff,splice,z];refine⟨_,?_,j+1,(XC bs c' x.toNat).2,hjl,rfl,?_,?_,hw5,N5 hn4 oc5.next,hg5,h5,oc6,hrr2⟩
     ·omega
     ·simp only[uxA,uxB,Nat.reduceBEq,r0]
     ·simp only[uxA,uxB,Nat.reduceBEq,r51]
   ·rw[Le (by rw[hl];exact hjl)];have hd:l.drop j=[]:=NR (by omega);rw[hd]at hrr;have hrr2:r=(0,c'):=hrr;simp only[sxA,sxB,Nat.reduceBEq,Nat.reduceEqDiff,reduceCtorEq,mxA,mxB,Nat.reduceAdd,reduceIte,Nat.reduceLeDiff,splice,Yp];exact .mk hoc.next ⟨by rw[hrr2],by rw[hrr2];exact hoc⟩
theorem QER {A:Env} {H:Qa} {k:Value->Qa->Prop} {x:Operand} (B:Nat) (hx:ev A x=.pointer (some ⟨B,0,none⟩)):pr prog (.gen (.indexAddr tA2 x (.const (.int .i64 0)))) false A H k=k (.pointer (some ⟨B,0,none⟩)) H:=QHa B 0 (by omega) hx
theorem QHc {A:Env} {H:Qa} {k:Value->Qa->Prop} {x:Operand} (B:Nat) (hx:ev A x=.pointer (some ⟨B,0,none⟩)):pr prog (.gen (.indexAddr tA2 x (.const (.int .i64 1)))) false A H k=k (.pointer (some ⟨B,1,none⟩)) H:=QHa B 1 (by omega) hx
theorem QBf {H0:Qa} (b:Nat) (c:Rr) (bs:List Int) (H:Qa) (h:VF H0 H b c bs) (hs:c.x.f.shapes.length=c.x.f.slots.length):Qh prog Kf [.pointer (some ⟨b,0,none⟩)] H (Qa6 H b (QjW bs c).1 (QjW bs c).2):=by
 refine QhE λhw=>?_;obtain⟨r,hr⟩:∃r,r=QjW bs c:=⟨_,rfl⟩;rw[<- hr];have hr0:r=Qo2 bs (QkX bs 4 c.x.f.pre c):=hr;clear hr;have hb:b<H.next:=hw.lt h.at_;simp only[QbU,sxA,sxB,Nat.reduceBEq,Nat.reduceEqDiff,reduceCtorEq,mxA,mxB,Nat.reduceAdd,reduceIte,Nat.reduceLeDiff,splice];have body:∀ (I:Nat->Env->Qa->Prop),I=(λm A' H'=>∃ (left:Int) (c':Rr),cnt left<=m∧A' 0=.pointer (some ⟨b,0,none⟩)∧A' 3=.int .i64 left∧H'.Wf∧VF H0 H' b c' bs∧Wp H H' b c'∧c'.x=c.x∧r=Qo2 bs (QkX bs m left c'))->∀m A' H',I m A' H'->
   Qn prog X1 ⟨Rt prog Y3 H (Qa6 H b r.1 r.2),jmK 0 I m X2⟩ (Rt prog Y3 H (Qa6 H b r.1 r.2)) A' H':=by
  intro I hI m A' H' hin;rw[hI]at hin;obtain⟨left,c',hm,a0,a3,hw',hrd,hoc,hcx,hrr⟩:=hin;simp only[X1,sxA,sxB,Nat.reduceBEq,Nat.reduceEqDiff,reduceCtorEq,mxA,mxB,Nat.reduceAdd,reduceIte,Nat.reduceLeDiff,splice,QDu,QDv,QDw];rw[QFG];simp only[sxA,sxB,Nat.reduceBEq,Nat.reduceEqDiff,reduceCtorEq,mxA,mxB,Nat.reduceAdd,reduceIte,Nat.reduceLeDiff,splice];refine QE (λq A2 H2=>∃i:Nat,i<=3∧q=3 - i∧A2 0=.pointer (some ⟨b,0,none⟩)∧A2 3=.int .i64 left∧A2 19=QwW∧A2 20=.int .i64 i∧(∀j,j<i->hit left j=false)∧H2.Wf∧VF H0 H2 b c' bs∧Wp H H2 b c') 3 ?_ ?_
  ·refine⟨0,by omega,rfl,?_,?_,?_,?_,λj hj=>by omega,hw',hrd,hoc⟩
   all_goals simp only[uxA,uxB,Nat.reduceBEq,a0,a3]
   rfl
  ·rintro q A2 H2 ⟨i,hi,rfl,r0,r3,r19,r20,hno,hw2,hrd2,hoc2⟩;simp only[Qab,sxA,sxB,Nat.reduceBEq,Nat.reduceEqDiff,reduceCtorEq,mxA,mxB,Nat.reduceAdd,reduceIte,Nat.reduceLeDiff,splice,r20]
   by_cases h3:i<3
   ·have h3':(i:Int)<3:=by omega
    simp only[h3',Nf,Qaa,sxA,sxB,Nat.reduceBEq,Nat.reduceEqDiff,reduceCtorEq,mxA,mxB,Nat.reduceAdd,reduceIte,Nat.reduceLeDiff,splice];rw[QDx i h3 (by simp only[uxA,uxB,Nat.reduceBEq,r19]) (by simp only[uxA,uxB,Nat.reduceBEq,r20])];simp only[Qf3,sxA,sxB,Nat.reduceBEq,Nat.reduceEqDiff,reduceCtorEq,mxA,mxB,Nat.reduceAdd,reduceIte,Nat.reduceLeDiff,splice];have hg3:((H2.push (.cells [.int .i64 0,.int .i64 0] tA2 false)).set H2.next (.cells [.int .i64 (Y9 i),.int .i64 (VX i)] tA2 false)).get H2.next=some (.cells [.int .i64 (Y9 i),.int .i64 (VX i)] tA2 false):=by rw[Qm,Lc rfl]
    have hw3:((H2.push (.cells [.int .i64 0,.int .i64 0] tA2 false)).set H2.next (.cells [.int .i64 (Y9 i),.int .i64 (VX i)] tA2 false)).Wf:=(hw2.push _).set (by rw[Qi,Lc rfl]) _;have hx3:Ext H2 ((H2.push (.cells [.int .i64 0,.int .i64 0] tA2 false)).set H2.next (.cells [.int .i64 (Y9 i),.int .i64 (VX i)] tA2 false)):=((Ext.refl H2).push _).set (Lb _) _;generalize (H2.push (.cells [.int .i64 0,.int .i64 0] tA2 false)).set H2.next (.cells [.int .i64 (Y9 i),.int .i64 (VX i)] tA2 false)=H3 at *;have hrd3:=hrd2.only ((Wp.refl hrd2.at_).ext (hw2.lt hrd2.at_) hx3) rfl rfl hrd2.p0;have hoc3:=hoc2.ext hb hx3;rw[QER H2.next (by simp only[uxA,uxB,Nat.reduceBEq])];have hand:IntKind.i64.wrap (BitVec.ofInt IntKind.i64.bits left &&& BitVec.ofInt IntKind.i64.bits (Y9 i)).toNat=YM left (Y9 i):=rfl;have hclr:IntKind.i64.wrap (BitVec.ofInt IntKind.i64.bits left &&& ~~~BitVec.ofInt IntKind.i64.bits (Y9 i)).toNat=Qpx left (Y9 i):=rfl;simp only[sxA,sxB,Nat.reduceBEq,Nat.reduceEqDiff,reduceCtorEq,mxA,mxB,Nat.reduceAdd,reduceIte,Nat.reduceLeDiff,splice,hg3,r3,hand];cases z:YM left (Y9 i)==0 with
    | true=>
     have hh:hit left i=false:=by unfold hit;rw[z];rfl
     have ek:IntKind.i64.wrap ((i:Int)+1)=((i+1:Nat):Int):=by rw[w64 (by unfold I64;omega)];omega
     simp only[sxA,sxB,Nat.reduceBEq,Nat.reduceEqDiff,reduceCtorEq,mxA,mxB,Nat.reduceAdd,reduceIte,Nat.reduceLeDiff,splice,r20,ek];refine⟨_,?_,i+1,h3,rfl,?_,?_,?_,?_,λj hj=>?_,hw3,hrd3,hoc3⟩
     ·omega
     ·simp only[uxA,uxB,Nat.reduceBEq,r0]
     ·simp only[uxA,uxB,Nat.reduceBEq,r3]
     ·simp only[uxA,uxB,Nat.reduceBEq,r19]
     ·simp only[uxA,uxB,Nat.reduceBEq]
     ·by_cases e:j=i
      ·rw[e];exact hh
      ·exact hno j (by omega)
    | false=>
     have hh:hit left i=true:=by unfold hit;rw[z];rfl
     have hc1:=QDA left i h3 hh;obtain⟨n,rfl⟩:∃n,m=n+1:=⟨m - 1,by omega⟩;rw[QBd bs n left c' i h3 hno hh]at hrr;simp only[V9,sxA,sxB,Nat.reduceBEq,Nat.reduceEqDiff,reduceCtorEq,mxA,mxB,Nat.reduceAdd,reduceIte,Nat.reduceLeDiff,splice];rw[QHc H2.next (by simp only[uxA,uxB,Nat.reduceBEq])];simp only[sxA,sxB,Nat.reduceBEq,Nat.reduceEqDiff,reduceCtorEq,mxA,mxB,Nat.reduceAdd,reduceIte,Nat.reduceLeDiff,splice,hg3,r0];refine(Qnk b c' bs (VX i) H3 hrd3).thenW ?_;rintro _ H4 hn4 hw4 ⟨rfl,oc4⟩;have h4:=hrd3.only oc4 rfl rfl (QqP hrd3.p0 hrd3.len);have hoc4:=hoc3.trans oc4;have hg4:H4.get H2.next=some (.cells [.int .i64 (Y9 i),.int .i64 (VX i)] tA2 false):=by
      rw[oc4.get _ (hw3.lt hg3) (by have:=hw2.lt hrd2.at_;omega)];exact hg3
     have hz:(XC bs c' (VX i)).1=(Qlu bs c'.p (VX i)).1:=rfl;have hz2:(XC bs c' (VX i)).2={c' with p:=(Qlu bs c'.p (VX i)).2}:=rfl;have hz3:(XC bs c' (VX i)).2.x=c'.x:=rfl;rw[<- hz];rw[<- hz2]at h4 hoc4;generalize XC bs c' (VX i)=x at *;cases z2:x.1==0 with
     | false=>
      rw[Le (by rw[z2];decide)]at hrr;have hrr2:r=x:=by rw[hrr];unfold Qo2;rw[Le (by rw[z2];decide)]
      simp only[sxA,sxB,Nat.reduceBEq,Nat.reduceEqDiff,reduceCtorEq,mxA,mxB,Nat.reduceAdd,reduceIte,Nat.reduceLeDiff,splice,z2,Yp];exact .mk hoc4.next ⟨by rw[hrr2],by rw[hrr2];exact hoc4⟩
     | true=>
      rw[Lc z2]at hrr;have hj:=QHb;simp only[sxA,sxB,Nat.reduceBEq,Nat.reduceEqDiff,reduceCtorEq,mxA,mxB,Nat.reduceAdd,reduceIte,Nat.reduceLeDiff,splice,z2,r3];rw[QER H2.next (by simp only[uxA,uxB,Nat.reduceBEq])];simp only[sxA,sxB,Nat.reduceBEq,Nat.reduceEqDiff,reduceCtorEq,mxA,mxB,Nat.reduceAdd,reduceIte,Nat.reduceLeDiff,splice,hg4,r3,hclr,QnR _ _ _ _ _ _ hj.1,QnR _ _ _ _ _ _ hj.2.1,QAD];rw[hI];refine⟨n,by omega,Qpx left (Y9 i),x.2,by omega,?_,?_,hw4,h4,hoc4,by rw[hz3,hcx],hrr⟩
      ·simp only[uxA,uxB,Nat.reduceBEq,r0]
      ·simp only[uxA,uxB,Nat.reduceBEq]
   ·have h3':¬ (i:Int)<3:=by omega
    simp only[h3',NE,sxA,sxB,Nat.reduceBEq,Nat.reduceEqDiff,reduceCtorEq,mxA,mxB,Nat.reduceAdd,reduceIte,Nat.reduceLeDiff,splice];obtain rfl:i=3:=by omega
    rw[Qzw bs m left c' hno]at hrr;exact QDB b bs c' r _ _ H2 hw hw2 (by simp only[uxA,uxB,Nat.reduceBEq,r0]) hrd2 hoc2 hb (by rw[hcx];exact hs) hrr
 refine QoL _ 4 ?_ (body _ rfl);have e16:Vj=X1:=rfl;simp only[Vk,sxA,sxB,Nat.reduceBEq,Nat.reduceEqDiff,reduceCtorEq,mxA,mxB,Nat.reduceAdd,reduceIte,Nat.reduceLeDiff,splice,h.at_,rr3,e16];refine body _ rfl 4 _ _ ⟨c.x.f.pre,c,N8 (QFJ _) (by omega),?_,?_,hw,h,Wp.refl h.at_,rfl,hr0⟩
 all_goals simp only[uxA,uxB,Nat.reduceBEq]
def Qtu (bs:List Int) (c:Rr):Rr:={c with r:=(YN bs).1.r,xx:=(YN bs).1.x,bb:=(YN bs).1.b,v:=(YN bs).1.v,p:=(YN bs).2.1}
def Qo3 (m:Vx) (f:Fm):Bool:=!(m.map==f.map)||(!(f.w==-1)&&!(m.w==f.w))||!(m.l==f.l)||!(m.pre==f.pre)
def QhW (bs:List Int) (c:Rr):Int×Rr:=
 if((YN bs).2.2==0)=false then((YN bs).2.2,c)
 else if Qo3 (YN bs).1 c.x.f=true then(4,Qtu bs c)
 else if((!((YN bs).1.v==0)&&decide (QC c.x.f.slots 3<0))||!ZB c.x.f (YN bs).1.r (YN bs).1.x (YN bs).1.b)=true then(4,Qtu bs c)
 else(0,Qtu bs c)
theorem QBg (bs:List Int):0<=(YN bs).2.1∧(YN bs).2.1<=bs.length:=by
 unfold YN
 repeat' split
 all_goals (simp only;omega)
theorem QHd (c:Rr):c.cells[7]? = some (.int .i64 c.x.f.w):=rfl
theorem rr9 (c:Rr):c.cells[9]? = some (.int .i64 c.x.f.l):=rfl
theorem QHY (c:Rr) (n:Int):List.take 16 c.cells++(Value.int .i64 n::List.drop 17 c.cells)=({c with v:=n}:Rr).cells:=rfl
theorem QFK (v:Vx):v.cells.length=8:=rfl
theorem vx0 (v:Vx):v.cells[0]? = some (.int .i64 v.r):=rfl
theorem vx1 (v:Vx):v.cells[1]? = some (.int .i64 v.x):=rfl
theorem QHZ (v:Vx):v.cells[2]? = some (.int .i64 v.b):=rfl
theorem QH0 (v:Vx):v.cells[3]? = some (.int .i64 v.map):=rfl
theorem vx4 (v:Vx):v.cells[4]? = some (.int .i64 v.w):=rfl
theorem vx5 (v:Vx):v.cells[5]? = some (.int .i64 v.v):=rfl
theorem vx6 (v:Vx):v.cells[6]? = some (.int .i64 v.l):=rfl
theorem vx7 (v:Vx):v.cells[7]? = some (.int .i64 v.pre):=rfl
theorem Qx9 {H0 H:Qa} (b:Nat) (bs:List Int) (c:Rr) (r:Int×Rr) (e:Nat->Env->Qa->Prop) (A:Env) (H1:Qa) (hw:H.Wf) (hw1:H1.Wf) (a0:A 0=.pointer (some ⟨b,0,none⟩)) (h1:VF H0 H1 b c bs) (oc:Wp H H1 b c) (hb:b<H.next) (hs:c.x.f.shapes.length=c.x.f.slots.length) (hr:r=QhW bs c):
    Qn prog Zx ⟨Rt prog Y2 H (Qa6 H b r.1 r.2),e⟩ (Rt prog Y2 H (Qa6 H b r.1 r.2)) A H1:=by
  have hr1:r=if((YN bs).2.2==0)=false then((YN bs).2.2,c)
    else if Qo3 (YN bs).1 c.x.f=true then(4,{c with r:=(YN bs).1.r,xx:=(YN bs).1.x,bb:=(YN bs).1.b,v:=(YN bs).1.v,p:=(YN bs).2.1})
    else if((!((YN bs).1.v==0)&&decide (QC c.x.f.slots 3<0))||!ZB c.x.f (YN bs).1.r (YN bs).1.x (YN bs).1.b)=true then(4,{c with r:=(YN bs).1.r,xx:=(YN bs).1.x,bb:=(YN bs).1.b,v:=(YN bs).1.v,p:=(YN bs).2.1})
    else(0,{c with r:=(YN bs).1.r,xx:=(YN bs).1.x,bb:=(YN bs).1.b,v:=(YN bs).1.v,p:=(YN bs).2.1}):=hr
  clear hr;have hvp:=QBg bs;obtain⟨hw0,hx,lo,hc,fm,by_,len,p0⟩:=id h1;have byH:QbC H1 c.bv bs:=by
    obtain⟨a,cap,hbv,hby⟩:=by_;refine⟨a,cap,hbv,λhl=>?_⟩;obtain⟨bb,o,e,ro,cs,e1,hg,hcs⟩:=hby hl;exact⟨bb,o,e,ro,cs,e1,by rw[hx.get bb (hw0.lt hg),hg],hcs⟩
  simp only[Zx,Qb,simprocAttr,a0,hc,QrX];refine(QwS c.bv bs H1 byH len).thenW ?_;rintro _ _ hn hw2 ⟨rfl,k,rfl⟩;have hk:H1.next<=k:=hn;have oc2:=oc.up hk;have h2:=h1.up hk;have hbk:b<k:=N5 hb (N8 oc.next hk);generalize YN bs=mm at *;obtain⟨m,n,x⟩:=mm;simp only at hr1 hvp;simp only[Qb,simprocAttr,QFK];have hx3:=λB C=>((Ext.refl (H1.up k)).push B).set (i:=k) (Lb _) C;cases z:x==0 with
  | false=>
    rw[Lc z]at hr1;simp only[Qb,simprocAttr,z,QF];exact⟨rfl,.mk (oc2.ext hb (hx3 _ _)).next ⟨by rw[hr1],by rw[hr1];exact oc2.ext hb (hx3 _ _)⟩⟩
  | true=>
    rw[Le (by rw[z];decide)]at hr1;have hne:(b=k)=False:=by simp;omega
    simp only[V2,Qb,simprocAttr,z,a0,hne];refine⟨rfl,?_⟩;have hbel:∀ (q:Int) (K:Nat),(Qs K 6 (.int .i64 q)=true)=True:=λ_ _=>eq_true rfl;have hne2:(k=b)=False:=by simp;omega
    simp only[Qb,simprocAttr,vx0,vx1,QHZ,vx5,hbel,Bz,a0,hne,hne2,hc,Xl,QFC,QFD,QFE,QHY,QwU];obtain⟨c9,hc9⟩:∃c9:Rr,c9={c with r:=m.r,xx:=m.x,bb:=m.b,v:=m.v,p:=n}:=⟨_,rfl⟩;rw[<- hc9]at hr1 ⊢;generalize hH9:Qa.set _ b (.cells c9.cells We false)=H9;have oc9:Wp H1 H9 b c9:=by
      rw[<- hH9];exact(((((((Wp.refl hc).up hk).ext (N5 hb oc.next) (hx3 _ _)).set _).set _).set _).set _).set c9
    have gk:H9.get k=some (.cells m.cells QbL false):=by
      rw[<- hH9];simp only[Qm,hne2,LN,N3]
    have h9:=h1.only oc9 (by rw[hc9]) (by rw[hc9]) (by rw[hc9];exact hvp);have oc19:=oc.trans oc9;have x9:c9.x=c.x:=by rw[hc9]
    have hr9:c9.r=m.r:=by rw[hc9]
    have hx9:c9.xx=m.x:=by rw[hc9]
    have hb9:c9.bb=m.b:=by rw[hc9]
    clear hH9 hc9;have e4:∀f:Fm,Qo3 m f=(!(m.map==f.map)||(!(f.w==-1)&&!(m.w==f.w))||!(m.l==f.l)||!(m.pre==f.pre)):=λ_=>rfl;rw[e4,<- x9]at hr1;have no:Qo3 m c9.x.f=true->r=(4,c9):=λh=>by rw[<- e4,Lc h]at hr1;exact hr1
    have c9at:=h9.at_;have final:Qo3 m c9.x.f=false->∀ (e':Nat->Env->Qa->Prop) (kk:Env->Qa->Prop),(∀A3 H3,r=(0,c9)->Wp H H3 b c9->kk A3 H3)->∀A2:Env,A2 0=.pointer (some ⟨b,0,none⟩)->A2 4=.pointer (some ⟨k,0,none⟩)->Qn prog Zw ⟨Rt prog Y2 H (Qa6 H b r.1 r.2),e'⟩ kk A2 H9:=by
      intro hno e' kk hkk A2 a0 a4;rw[<- e4,Le (by rw[hno];decide),<- hr9,<- hx9,<- hb9]at hr1;have qs:=XS c9.x 3 H9 (h9.fm.ext hw0 h9.hx);have qa:=fun(k':Nat) (hk':H9.next<=k')=>Qn7 b c9 (H9.up k') (h9.up hk').at_ (h9.fm.ext hw0 (h9.up hk').hx) (by rw[x9];exact hs);generalize QC c9.x.f.slots 3=i3 at *;generalize hal:ZB c9.x.f c9.r c9.xx c9.bb=al at *;simp only[Zw,Qb,simprocAttr,a4,gk,vx5];cases z6:m.v==0 with
      | true=>
        rw[z6]at hr1;have qa0:=qa H9.next (Lb _);rw[Qa.up_self]at qa0;simp only[Qb,simprocAttr,a0];refine qa0.thenW ?_;rintro _ _ hn5 hw5 ⟨rfl,k5,rfl⟩;have oc20:=oc19.up (show H9.next<=k5 from hn5);cases al with
        | false=>
          have hr2:r=(4,c9):=by rw[Lc (by rfl)]at hr1;exact hr1
          simp only[Qb,simprocAttr,QF];exact .mk oc20.next ⟨by rw[hr2],by rw[hr2];exact oc20⟩
        | true=>
          have hr2:r=(0,c9):=by rw[Le (by simp)]at hr1;exact hr1
          simp only[Qb,simprocAttr];exact hkk _ _ hr2 oc20
      | false=>
        rw[z6]at hr1;simp only[Qb,simprocAttr,a0,c9at,Xl,Y6];refine qs.thenW ?_;rintro _ _ hn4 hw4 ⟨rfl,k4,rfl⟩;have hk4:H9.next<=k4:=hn4;cases z8:decide (i3<0) with
        | true=>
          rw[z8]at hr1;have hr2:r=(4,c9):=by rw[Lc (by rfl)]at hr1;exact hr1
          have oc20:=oc19.up hk4;simp only[Qb,simprocAttr,z8,QF];exact .mk oc20.next ⟨by rw[hr2],by rw[hr2];exact oc20⟩
        | false=>
          rw[z8]at hr1;simp only[Qb,simprocAttr,z8,a0];refine(qa k4 hk4).thenW ?_;rintro _ _ hn5 hw5 ⟨rfl,k5,rfl⟩;have oc20:=(oc19.up hk4).up (show(H9.up k4).next<=k5 from hn5);cases al with
          | false=>
            have hr2:r=(4,c9):=by rw[Lc (by rfl)]at hr1;exact hr1
            simp only[Qb,simprocAttr,QF];exact .mk oc20.next ⟨by rw[hr2],by rw[hr2];exact oc20⟩
          | true=>
            have hr2:r=(0,c9):=by rw[Le (by decide)]at hr1;exact hr1
            simp only[Qb,simprocAttr];exact hkk _ _ hr2 oc20
    rw[e4]at no final;cases z1:m.map==c9.x.f.map<;>cases z2:c9.x.f.w==-1<;>cases z3:m.w==c9.x.f.w<;>cases z4:m.l==c9.x.f.l<;>cases z5:m.pre==c9.x.f.pre<;>simp only[Qb,simprocAttr,a0,gk,c9at,QH0,vx4,vx6,vx7,rr4,QHd,rr9,rr3,z1,z2,z3,z4,z5,QF]
    all_goals first
      | (have hr2:=no (by rw[z1,z2,z3,z4,z5];rfl)
         exact .mk oc19.next ⟨by rw[hr2],by rw[hr2];exact oc19⟩)
      | (refine final (by rw[z1,z2,z3,z4,z5];rfl) _ _ (λA3 H3 hr2 oc3=>?_) _ ?_ ?_
         · simp only[Qb,simprocAttr,QF]
           exact .mk oc3.next ⟨by rw[hr2],by rw[hr2];exact oc3⟩
         · simp only[Qg,simprocAttr,a0]
         · simp only[Qg,simprocAttr])
def VG (n:Int) (s:Nat):Int:=QcP (YM (QbE n s) 1) 1
def Qgh (bs:List Int) (c:Rr):Rr:={c with r:=VG (IntKind.i64.wrap (bs.getD 1 0)) 7,xx:=VG (IntKind.i64.wrap (bs.getD 1 0)) 6,bb:=VG (IntKind.i64.wrap (bs.getD 1 0)) 5}
def Qpy (bs:List Int) (c:Rr):Int×Rr:=
 if bs.length=0 then(9,c)
 else if((bs.getD 0 0==197)&&(c.x.f.map==1)&&!(c.x.f.w==1))=true then QhW bs c
 else if(bs.getD 0 0==196)=false then(4,c)
 else if bs.length<2 then(9,c)
 else if(!(YM (IntKind.i64.wrap (bs.getD 1 0)) 31==c.x.f.map)||!ZB c.x.f (Qgh bs c).r (Qgh bs c).xx (Qgh bs c).bb)=true then(4,Qgh bs c)
 else QhW bs (Qgh bs c)
theorem QBh {H0:Qa} (b:Nat) (c:Rr) (bs:List Int) (H:Qa) (h:VF H0 H b c bs) (hs:c.x.f.shapes.length=c.x.f.slots.length):Qh prog Ke [.pointer (some ⟨b,0,none⟩)] H (Qa6 H b (Qpy bs c).1 (Qpy bs c).2):=by
  refine QhD λhw=>?_;obtain⟨r,hr⟩:∃r,r=Qpy bs c:=⟨_,rfl⟩;rw[<- hr];have he:r=if bs.length=0 then(9,c)
    else if((bs.getD 0 0==197)&&(c.x.f.map==1)&&!(c.x.f.w==1))=true then QhW bs c
    else if(bs.getD 0 0==196)=false then(4,c)
    else if bs.length<2 then(9,c)
    else if(!(YM (IntKind.i64.wrap (bs.getD 1 0)) 31==c.x.f.map)||!ZB c.x.f (Qgh bs c).r (Qgh bs c).xx (Qgh bs c).bb)=true then(4,Qgh bs c)
    else QhW bs (Qgh bs c):=hr
  clear hr;obtain⟨hw0,hx,lo,hc,fm,by_,len,p0⟩:=id h;obtain⟨a,cap,hbv,hby⟩:=id by_;have hbv':∀c':Rr,c'.bv=c.bv->c'.cells[10]? = some (.slice a bs.length cap):=λc' h=>by rw[QrX,h,hbv]
  have hbvc:=hbv' c rfl;have hb:b<H.next:=hw.lt hc;have oc:=Wp.refl hc;simp only[QbT,sxA,sxB,Nat.reduceBEq,Nat.reduceEqDiff,reduceCtorEq,mxA,mxB,Nat.reduceAdd,reduceIte,Nat.reduceLeDiff,splice,hc,hbvc]
  by_cases g:bs.length=0
  · rw[Lc g]at he
    have g':((bs.length:Int)==0)=true:=by rw[g];rfl
    simp only[g',sxA,sxB,Nat.reduceBEq,Nat.reduceEqDiff,reduceCtorEq,mxA,mxB,Nat.reduceAdd,reduceIte,Nat.reduceLeDiff,splice,QF];exact .mk (Lb _) ⟨by rw[he],by rw[he];exact oc⟩
  · rw[Le g]at he
    have g':((bs.length:Int)==0)=false:=by simp;intro e;rw[e]at g;exact g rfl
    obtain⟨bb,o,e,ro,cs,rfl,hg,hcs⟩:=hby (by omega);have hg':H.get bb=some (.cells cs e ro):=(hx.get bb (hw0.lt hg)).trans hg;have c1:(0:Int)<=0∧(0:Int)<bs.length:=by omega
    have g1:cs[o]? = some (.int .u8 (bs.getD 0 0)):=hcs 0 (by omega);have t0:(0:Int).toNat=0:=rfl;simp only[g',V5,sxA,sxB,Nat.reduceBEq,Nat.reduceEqDiff,reduceCtorEq,mxA,mxB,Nat.reduceAdd,reduceIte,Nat.reduceLeDiff,splice,hc,hbvc,c1,hg',t0,g1];have tl:=fun(e':Nat->Env->Qa->Prop) (A:Env) (a0:A 0=.pointer (some ⟨b,0,none⟩)) (hr:r=QhW bs c)=>Qx9 b bs c r e' A H hw hw a0 h oc hb hs hr;have sec:((bs.getD 0 0==197)&&(c.x.f.map==1)&&!(c.x.f.w==1))=false->∀ (e':Nat->Env->Qa->Prop) (kk:Env->Qa->Prop),(∀ (A3:Env) (H3:Qa),A3 0=.pointer (some ⟨b,0,none⟩)->H3.Wf->VF H0 H3 b (Qgh bs c) bs->Wp H H3 b (Qgh bs c)->r=QhW bs (Qgh bs c)->kk A3 H3)->∀A2:Env,A2 0=.pointer (some ⟨b,0,none⟩)->Qn prog Zy ⟨Rt prog Y2 H (Qa6 H b r.1 r.2),e'⟩ kk A2 H:=by
      intro hno e' kk hkk A2 a0;rw[Le (by rw[hno];decide)]at he;simp only[Zy,sxA,sxB,Nat.reduceBEq,Nat.reduceEqDiff,reduceCtorEq,mxA,mxB,Nat.reduceAdd,reduceIte,Nat.reduceLeDiff,splice,a0,hc,hbvc,c1,hg',t0,g1];cases z4:bs.getD 0 0==196 with
      | false=>
        rw[Lc z4]at he;simp only[sxA,sxB,Nat.reduceBEq,Nat.reduceEqDiff,reduceCtorEq,mxA,mxB,Nat.reduceAdd,reduceIte,Nat.reduceLeDiff,splice,QF];exact .mk (Lb _) ⟨by rw[he],by rw[he];exact oc⟩
      | true=>
        rw[Le (by rw[z4];decide)]at he;simp only[V4,sxA,sxB,Nat.reduceBEq,Nat.reduceEqDiff,reduceCtorEq,mxA,mxB,Nat.reduceAdd,reduceIte,Nat.reduceLeDiff,splice,a0,hc,hbvc]
        by_cases g2:bs.length<2
        · rw[Lc g2]at he
          have g3:(bs.length:Int)<2:=by omega
          simp only[g3,Nf,sxA,sxB,Nat.reduceBEq,Nat.reduceEqDiff,reduceCtorEq,mxA,mxB,Nat.reduceAdd,reduceIte,Nat.reduceLeDiff,splice,QF];exact .mk (Lb _) ⟨by rw[he],by rw[he];exact oc⟩
        · rw[Le g2]at he
          have g3:¬ (bs.length:Int)<2:=by omega
          have c2:(0:Int)<=1∧(1:Int)<bs.length:=by omega
          have t1:(1:Int).toNat=1:=rfl;have g4:=hcs 1 (by omega);have p3:Qgh bs c={c with r:=VG (IntKind.i64.wrap (bs.getD 1 0)) 7,xx:=VG (IntKind.i64.wrap (bs.getD 1 0)) 6,bb:=VG (IntKind.i64.wrap (bs.getD 1 0)) 5}:=rfl;have h7:(0:Int)<=7:=by omega
          have h6:(0:Int)<=6:=by omega
          have h5:(0:Int)<=5:=by omega
          generalize hn:IntKind.i64.wrap (bs.getD 1 0)=n at *;have xb7:IntKind.i64.wrap (BitVec.ofInt IntKind.i64.bits (IntKind.i64.wrap (BitVec.ofInt IntKind.i64.bits (n.fdiv (2 ^ min (Int.toNat 7) IntKind.i64.bits)) &&& BitVec.ofInt IntKind.i64.bits 1).toNat) ^^^ BitVec.ofInt IntKind.i64.bits 1).toNat=VG n 7:=rfl;have xb6:IntKind.i64.wrap (BitVec.ofInt IntKind.i64.bits (IntKind.i64.wrap (BitVec.ofInt IntKind.i64.bits (n.fdiv (2 ^ min (Int.toNat 6) IntKind.i64.bits)) &&& BitVec.ofInt IntKind.i64.bits 1).toNat) ^^^ BitVec.ofInt IntKind.i64.bits 1).toNat=VG n 6:=rfl;have xb5:IntKind.i64.wrap (BitVec.ofInt IntKind.i64.bits (IntKind.i64.wrap (BitVec.ofInt IntKind.i64.bits (n.fdiv (2 ^ min (Int.toNat 5) IntKind.i64.bits)) &&& BitVec.ofInt IntKind.i64.bits 1).toNat) ^^^ BitVec.ofInt IntKind.i64.bits 1).toNat=VG n 5:=rfl;have hand:IntKind.i64.wrap (BitVec.ofInt IntKind.i64.bits n &&& BitVec.ofInt IntKind.i64.bits 31).toNat=YM n 31:=rfl;simp only[g3,NE,V3,sxA,sxB,Nat.reduceBEq,Nat.reduceEqDiff,reduceCtorEq,mxA,mxB,Nat.reduceAdd,reduceIte,Nat.reduceLeDiff,splice,a0,hc,hbvc,c2,hg',t1,g4,hn,h7,h6,h5,xb7,xb6,xb5,hand,Xl,QFC,QFD,QFE];rw[<- p3];have x9:(Qgh bs c).x=c.x:=rfl;have b9:(Qgh bs c).bv=c.bv:=rfl;have q9:(Qgh bs c).p=c.p:=rfl;clear p3;generalize Qgh bs c=c9 at *;generalize hH9:Qa.set _ b (.cells c9.cells We false)=H9;have oc9:Wp H H9 b c9:=by
            rw[<- hH9];exact((oc.set _).set _).set c9
          have h9:=h.only oc9 x9 b9 (by rw[q9];exact p0);have c9at:=h9.at_;have qa:=Qn7 b c9 H9 c9at (h9.fm.ext hw0 h9.hx) (by rw[x9];exact hs);rw[<- x9]at he;simp only[sxA,sxB,Nat.reduceBEq,Nat.reduceEqDiff,reduceCtorEq,mxA,mxB,Nat.reduceAdd,reduceIte,Nat.reduceLeDiff,splice,rr4];cases z5:YM n 31==c9.x.f.map with
          | false=>
            have hr2:r=(4,c9):=by rw[he,Lc (by rw[z5];rfl)]
            simp only[sxA,sxB,Nat.reduceBEq,Nat.reduceEqDiff,reduceCtorEq,mxA,mxB,Nat.reduceAdd,reduceIte,Nat.reduceLeDiff,splice,QF];exact .mk oc9.next ⟨by rw[hr2],by rw[hr2];exact oc9⟩
          | true=>
            simp only[sxA,sxB,Nat.reduceBEq,Nat.reduceEqDiff,reduceCtorEq,mxA,mxB,Nat.reduceAdd,reduceIte,Nat.reduceLeDiff,splice,a0];refine qa.thenW ?_;rintro _ _ hn5 hw5 ⟨rfl,k5,rfl⟩;have hk5:H9.next<=k5:=hn5;have oc20:=oc9.up hk5;cases z6:ZB c9.x.f c9.r c9.xx c9.bb with
            | false=>
              have hr2:r=(4,c9):=by rw[he,Lc (by rw[z5,z6];rfl)]
              simp only[sxA,sxB,Nat.reduceBEq,Nat.reduceEqDiff,reduceCtorEq,mxA,mxB,Nat.reduceAdd,reduceIte,Nat.reduceLeDiff,splice,z6,QF];exact .mk oc20.next ⟨by rw[hr2],by rw[hr2];exact oc20⟩
            | true=>
              have hr2:r=QhW bs c9:=by rw[he,Le (by rw[z5,z6];decide)]
              simp only[sxA,sxB,Nat.reduceBEq,Nat.reduceEqDiff,reduceCtorEq,mxA,mxB,Nat.reduceAdd,reduceIte,Nat.reduceLeDiff,splice,z6];refine hkk _ _ ?_ hw5 (h9.up hk5) oc20 hr2;simp only[uxA,uxB,Nat.reduceBEq,a0]
    cases z1:bs.getD 0 0==197<;>cases z2:c.x.f.map==1<;>cases z3:c.x.f.w==1<;>simp only[sxA,sxB,Nat.reduceBEq,Nat.reduceEqDiff,reduceCtorEq,mxA,mxB,Nat.reduceAdd,reduceIte,Nat.reduceLeDiff,splice,hc,rr4,QHd,z2,z3]
    all_goals first
      | (rw[Lc (by rw[z1,z2,z3];rfl)]at he
         refine tl _ _ ?_ he;simp only[uxA,uxB,Nat.reduceBEq])
      | (refine sec (by rw[z1,z2,z3];rfl) _ _ (λA3 H3 b0 bw brd boc bhr=>Qx9 b bs (Qgh bs c) r _ A3 H3 hw bw b0 brd boc hb hs bhr) _ ?_
         simp only[uxA,uxB,Nat.reduceBEq])
def Qe0 (bs:List Int) (c:Rr):Int×Rr:=bif c.x.f.vex then Qpy bs c else QjW bs c
theorem QFL {H0:Qa} (b:Nat) (c:Rr) (bs:List Int) (H:Qa) (h:VF H0 H b c bs) (hs:c.x.f.shapes.length=c.x.f.slots.length):Qh prog ZL [.pointer (some ⟨b,0,none⟩)] H (Qa6 H b (Qe0 bs c).1 (Qe0 bs c).2):=by
 refine QjU λhw=>?_;have q1:=QBh b c bs H h hs;have q2:=QBf b c bs H h hs;have he:Qe0 bs c=bif c.x.f.vex then Qpy bs c else QjW bs c:=rfl
 simp only[Qdf,sxA,sxB,Nat.reduceBEq,Nat.reduceEqDiff,reduceCtorEq,mxA,mxB,Nat.reduceAdd,reduceIte,Nat.reduceLeDiff,splice,h.at_,rr8];cases z:c.x.f.vex with
 | true=>
  rw[z]at he;simp only[sxA,sxB,Nat.reduceBEq,Nat.reduceEqDiff,reduceCtorEq,mxA,mxB,Nat.reduceAdd,reduceIte,Nat.reduceLeDiff,splice];refine q1.thenW ?_;rintro _ _ hn hw2 ⟨rfl,oc⟩;simp only[sxA,sxB,Nat.reduceBEq,Nat.reduceEqDiff,reduceCtorEq,mxA,mxB,Nat.reduceAdd,reduceIte,Nat.reduceLeDiff,splice,QcK];exact .mk oc.next ⟨by rw[he];rfl,by rw[he];exact oc⟩
 | false=>
  rw[z]at he;simp only[sxA,sxB,Nat.reduceBEq,Nat.reduceEqDiff,reduceCtorEq,mxA,mxB,Nat.reduceAdd,reduceIte,Nat.reduceLeDiff,splice];refine q2.thenW ?_;rintro _ _ hn hw2 ⟨rfl,oc⟩;simp only[sxA,sxB,Nat.reduceBEq,Nat.reduceEqDiff,reduceCtorEq,mxA,mxB,Nat.reduceAdd,reduceIte,Nat.reduceLeDiff,splice,QcK];exact .mk oc.next ⟨by rw[he];rfl,by rw[he];exact oc⟩
def rA (c:Rr) (s n:Int):Ar:=⟨1,⟨Qzu c s n,n⟩,Wh,0⟩
def nA (k n:Int):Ar:=⟨k,⟨0,0⟩,Wh,n⟩
def Qu8 (s:Int):Ar:=if s=28 then⟨1,⟨1,0⟩,Wh,0⟩ else if s=29 then⟨1,⟨3,0⟩,Wh,0⟩ else if s=30 then⟨1,⟨4,0⟩,Wh,0⟩ else if s=31 then⟨1,⟨5,0⟩,Wh,0⟩ else if s=32 then⟨1,⟨1,1⟩,Wh,0⟩ else nA 3 1
theorem QqU (s:Int):QA8 s=(Qu8 s).cells:=by
 unfold QA8 Qu8
 repeat' split
 all_goals rfl
theorem QkY (c:Rr) (s n:Int):QqR (Qzu c s n) n=(rA c s n).cells:=rfl
def opA (c:Rr) (s slot n is4:Int):Ar:=
 if(slot==1)=true then rA c s (IntKind.i64.wrap (IntKind.i64.wrap (8 * c.r)+c.seen.fld))
 else if(slot==3)=true then rA c s c.v
 else if(slot==4)=true then rA c s (IntKind.i64.wrap (IntKind.i64.wrap (8 * c.bb)+c.low))
 else if(slot==7)=true then rA c s is4
 else if(slot==6)=true then Qu8 s
 else if(slot==2)=true then(if decide (0<=c.seen.reg)=true then rA c s c.seen.reg else⟨2,⟨0,0⟩,{c.seen.m with sz:=szF s},0⟩)
 else if(s==26||s==27)=true then nA 4 n else nA 3 n
theorem QH1 (c:Rr):c.cells[16]? = some (.int .i64 c.v):=rfl
theorem QH2 (c:Rr):c.cells[18]? = some (.int .i64 c.seen.fld):=rfl
theorem QHe (c:Rr):c.cells[19]? = some (.int .i64 c.seen.reg):=rfl
theorem QH3 (c:Rr):List.take 7 (List.drop 20 c.cells)=c.seen.m.cells:=rfl
theorem Qzx (b:Nat) (c:Rr) (s slot n is4:Int) (H:Qa) (hc:H.get b=some (.cells c.cells We false)):Qh prog Jt [.pointer (some ⟨b,0,none⟩),.int .i64 s,.int .i64 slot,.int .i64 n,.int .i64 is4] H (QkW H (opA c s slot n is4).cells):=by
 refine QgX λhw=>?_;obtain⟨a,ha⟩:∃a,a=opA c s slot n is4:=⟨_,rfl⟩;rw[<- ha];have he:a=if(slot==1)=true then rA c s (IntKind.i64.wrap (IntKind.i64.wrap (8 * c.r)+c.seen.fld))
  else if(slot==3)=true then rA c s c.v
  else if(slot==4)=true then rA c s (IntKind.i64.wrap (IntKind.i64.wrap (8 * c.bb)+c.low))
  else if(slot==7)=true then rA c s is4
  else if(slot==6)=true then Qu8 s
  else if(slot==2)=true then(if decide (0<=c.seen.reg)=true then rA c s c.seen.reg else⟨2,⟨0,0⟩,{c.seen.m with sz:=szF s},0⟩)
  else if(s==26||s==27)=true then nA 4 n else nA 3 n:=ha
 clear ha;have hlt:=hw.lt hc;have hne:(b=H.next)=False:=by simp;omega
 have hx1:=λB=>(Ext.refl H).push B;have gB:∀B,(H.push B).get b=some (.cells c.cells We false):=λB=>by rw[Qi,Le (by omega)];exact hc
 have qr:=λm B=>QwV b c s m (H.push B) (gB B);have al:∀a:Ar,(a.cells.all λx=>x.oneCell')=true:=λ_=>rfl;have len:∀a:Ar,a.cells.length=11:=λ_=>rfl;have done:∀ (B:Blk) (k:Nat) (C:Blk),(H.push B).next<=k->Ret H (QkW H a.cells) (.agg (List.take 11 a.cells).toArray) (((H.push B).up k).set H.next C):=λB k C hk=>
  Ret.ext hw (((hx1 B).up hk).set (Lb _) C) ⟨rfl,_,rfl⟩
 have done0:∀ (B C:Blk) (l:List Value),l=a.cells->Ret H (QkW H a.cells) (.agg l.toArray) ((H.push B).set H.next C):=λB C l e=>by
  rw[e];exact Ret.ext hw ((hx1 B).set (Lb _) C) ⟨rfl,_,rfl⟩
 simp only[QaR,Qb,simprocAttr];cases z1:slot==1 with
 | true=>
  rw[Lc z1]at he;simp only[Vm,Qb,simprocAttr,hne,hc,Qpv,QH2];refine(qr _ _).thenW ?_;rintro _ _ hn hw2 ⟨rfl,k,rfl⟩;rw[QkY,<- he];simp only[Qb,simprocAttr,len,QW];exact⟨rfl,done _ _ _ hn⟩
 | false=>
  rw[Le (by rw[z1];decide)]at he;simp only[GN,Qb,simprocAttr];cases z3:slot==3 with
  | true=>
   rw[Lc z3]at he;simp only[Qb,simprocAttr,hne,hc,QH1];refine(qr _ _).thenW ?_;rintro _ _ hn hw2 ⟨rfl,k,rfl⟩;rw[QkY,<- he];simp only[Qb,simprocAttr,len,QW];exact⟨rfl,done _ _ _ hn⟩
  | false=>
   rw[Le (by rw[z3];decide)]at he;simp only[Vt,Qb,simprocAttr];cases z4:slot==4 with
   | true=>
    rw[Lc z4]at he;simp only[Vn,Qb,simprocAttr,hne,hc,Qn6,QG9];refine(qr _ _).thenW ?_;rintro _ _ hn hw2 ⟨rfl,k,rfl⟩;rw[QkY,<- he];simp only[Qb,simprocAttr,len,QW];exact⟨rfl,done _ _ _ hn⟩
   | false=>
    rw[Le (by rw[z4];decide)]at he;simp only[Vs,Qb,simprocAttr];cases z7:slot==7 with
    | true=>
     rw[Lc z7]at he;simp only[Qb,simprocAttr];refine(qr _ _).thenW ?_;rintro _ _ hn hw2 ⟨rfl,k,rfl⟩;rw[QkY,<- he];simp only[Qb,simprocAttr,len,QW];exact⟨rfl,done _ _ _ hn⟩
    | false=>
     rw[Le (by rw[z7];decide)]at he;simp only[Vr,Qb,simprocAttr];cases z6:slot==6 with
     | true=>
      rw[Lc z6]at he;simp only[Qb,simprocAttr];refine(QDs s _).thenW ?_;rintro _ _ hn hw2 ⟨rfl,k,rfl⟩;rw[QqU,<- he];simp only[Qb,simprocAttr,len,QW];exact⟨rfl,done _ _ _ hn⟩
     | false=>
      rw[Le (by rw[z6];decide)]at he;simp only[Vq,Qb,simprocAttr];cases z2:slot==2 with
      | true=>
       rw[Lc z2]at he;simp only[Vp,Qb,simprocAttr,hne,hc,QHe];cases z8:decide (0<=c.seen.reg) with
       | true=>
        rw[Lc z8]at he;simp only[Qb,simprocAttr,hne,hc,QHe];refine(qr _ _).thenW ?_;rintro _ _ hn hw2 ⟨rfl,k,rfl⟩;rw[QkY,<- he];simp only[Qb,simprocAttr,len,QW];exact⟨rfl,done _ _ _ hn⟩
       | false=>
        rw[Le (by rw[z8];decide)]at he;simp only[Vo,Qb,simprocAttr,hne,hc,Xl,QH3];refine⟨⟨rfl,Lb _,rfl⟩,(Qez s _).thenW ?_⟩;rintro _ _ hn hw2 ⟨rfl,rfl⟩;have m1:∀m:Mm,m.cells++List.drop m.cells.length [Value.int .i64 0,.int .i64 0,.int .i64 0,.int .i64 0,.int .i64 0,.int .i64 0,.int .i64 0]=m.cells:=λ_=>rfl;have m2:∀ (m:Mm) (z:Int),List.take 6 m.cells++(Value.int .i64 z::List.drop 7 m.cells)=({m with sz:=z}:Mm).cells:=λ_ _=>rfl;have m3:∀m:Mm,m.cells.length=7:=λ_=>rfl;have n1:(H.next=H.next+1)=False:=by simp
        have n2:(H.next+1=H.next)=False:=by simp
        simp only[Qb,simprocAttr,m1,m2,m3,n1,n2,QW];have m4:∀m:Mm,List.take 7 m.cells=m.cells:=λ_=>rfl;have m5:∀m:Mm,Value.int .i64 2::.int .i64 0::.int .i64 0::(m.cells++List.drop (3+7) [Value.int .i64 2,.int .i64 0,.int .i64 0,.int .i64 0,.int .i64 0,.int .i64 0,.int .i64 0,.int .i64 0,.int .i64 0,.int .i64 0,.int .i64 0])=(Ar.mk 2 ⟨0,0⟩ m 0).cells:=λ_=>rfl;simp only[m4,m3,m5,N3,<- he];simp only[Qb,simprocAttr,n1,n2,len,QW];exact⟨rfl,Ret.ext hw (((((hx1 _).push _).set (by omega) _).set (by omega) _).set (Lb _) _) ⟨rfl,_,rfl⟩⟩
      | false=>
       rw[Le (by rw[z2];decide)]at he;simp only[Vl,Qb,simprocAttr];cases z9:s==26<;>cases z10:s==27<;>simp only[Qb,simprocAttr,z10,QW]
       all_goals (rw[z9,z10]at he)
       all_goals exact done0 _ _ _ (by rw[he];rfl)
def tl0 (s:Int):Int:=if(s==20||s==21||s==26)=true then 1 else if(s==22)=true then 2 else if(s==23||s==24||s==27)=true then 4 else if(s==25)=true then 8 else 0
def tl1 (f:Fm):Int:=if(decide (0<=QC f.slots 5)&&decide (QC f.slots 5<f.shapes.length))=true then tl0 (f.shapes.getD (QC f.slots 5).toNat 0) else 0
def tlF (f:Fm):Int:=bif decide (0<=QC f.slots 7) then tl1 f+1 else tl1 f
theorem QFM (s:Int):0<=tl0 s∧tl0 s<=8:=by
 unfold tl0
 repeat' split
 all_goals decide
theorem Qtv (f:Fm):0<=tl1 f∧tl1 f<=8:=by
 unfold tl1;split
 ·exact QFM _
 ·decide
theorem Qtw (x:Lf) (H:Qa) (hx:x.At H):Qh prog Qit [.agg x.cells.toArray] H λu H'=>u=.int .i64 (tlF x.f)∧∃m,H'=H.up m:=by
 refine QrM λhw=>?_;have ex:(Value.agg x.cells.toArray).cells.toList=x.cells:=rfl;have hx0:Ext H (H.push (.cells x.cells Qc false)):=(Ext.refl H).push _;have hg0:(H.push (.cells x.cells Qc false)).get H.next=some (.cells x.cells Qc false):=by rw[Qi,Lc rfl]
 have hw0:=hw.push (.cells x.cells Qc false);obtain⟨l1,l2,h1,h2⟩:=hx.ext hw hx0;obtain⟨a1,c1,e1,s1⟩:=h1;have x1:x.cells[1]? = some (.slice a1 x.f.shapes.length c1):=by rw[<- e1];rfl
 have qs:=XS x 5 _ (hx.ext hw hx0);have q7:=λm (hm:(H.push (.cells x.cells Qc false)).next<=m)=>XS x 7 _ (hx.ext hw (hx0.up hm));have hs:tlF x.f=bif decide (0<=QC x.f.slots 7) then tl1 x.f+1 else tl1 x.f:=rfl
 have hs1:tl1 x.f=if(decide (0<=QC x.f.slots 5)&&decide (QC x.f.slots 5<x.f.shapes.length))=true then tl0 (x.f.shapes.getD (QC x.f.slots 5).toNat 0) else 0:=rfl
 have hle:=Qtv x.f;generalize tl1 x.f=n at *;generalize tlF x.f=r at *;generalize QC x.f.slots 7=i7 at *;simp only[QlJ,ex,Qb,simprocAttr,QG,Wu,x1];generalize H.push (.cells x.cells Qc false)=H1 at *;have last:∀ (A:Env) m,H1.next<=m->A 1=.pointer (some ⟨H.next,0,none⟩)->A 3=.int .i64 n->Qn prog Qet ⟨Rt prog Qm7 H (λu H'=>u=.int .i64 r∧∃m,H'=H.up m),X2⟩ (Rt prog Qm7 H (λu H'=>u=.int .i64 r∧∃m,H'=H.up m)) A (H1.up m):=by
  intro A m hm a1' a3;simp only[Qet,Qb,simprocAttr,a1',a3,hg0,QG,Wu];refine(q7 m hm).thenW ?_;rintro _ _ hn1 hw1 ⟨rfl,m2,rfl⟩;have hx2:=(hx0.up hm).up hn1;have en:IntKind.i64.wrap (n+1)=n+1:=w64 (by unfold I64;omega);cases z:decide (0<=i7) with
  | true=>
   rw[z]at hs;simp only[Qb,simprocAttr,z,a3,en,QkD];exact .ext hw hx2 ⟨by rw[hs];rfl,_,rfl⟩
  | false=>
   rw[z]at hs;simp only[Qb,simprocAttr,z,a3,QkD];exact .ext hw hx2 ⟨by rw[hs];rfl,_,rfl⟩
 refine qs.thenW ?_;rintro _ _ hn1 hw1 ⟨rfl,m1,rfl⟩;simp only[Wm]at hn1;generalize QC x.f.slots 5=i at *;simp only[Qb,simprocAttr,hg0,x1];refine Qo (λh=>?_) (λh=>?_)<;>simp only[Qb,simprocAttr,hg0,x1,h]
 ·have h0:0<=i:=Lg h;refine Qf (λh'=>?_) (λh'=>?_)<;>simp only[Qb,simprocAttr,hg0,x1]
  ·have h1:i<x.f.shapes.length:=Lg h';obtain⟨b1,e1',ro1,rfl,hb1⟩:=s1 (by omega);have g1:=XQ (l:=x.f.shapes) (i:=i.toNat) (by omega);rw[Lc (by rw[h,h'];rfl)]at hs1;generalize x.f.shapes.getD i.toNat 0=s at *;have hs2:n=if(s==20||s==21||s==26)=true then 1 else if(s==22)=true then 2 else if(s==23||s==24||s==27)=true then 4 else if(s==25)=true then 8 else 0:=hs1
   clear hs1;simp only[Qjp,Qjo,Qjn,Qjm,Qjl,h0,h1,Qb,simprocAttr,hg0,x1,hb1,g1];cases z1:s==20<;>cases z2:s==21<;>cases z3:s==26<;>cases z4:s==22<;>cases z5:s==23<;>cases z6:s==24<;>cases z7:s==27<;>cases z8:s==25<;>simp only[Qb,simprocAttr,z1,z2,z3,z4,z5,z6,z7,z8]
   all_goals (rw[z1,z2,z3,z4,z5,z6,z7,z8]at hs2;refine last _ m1 hn1 ?_ ?_<;>simp only[Qg,simprocAttr,hs2])
   all_goals rfl
  ·rw[Le (by rw[h,h'];decide)]at hs1;refine last _ m1 hn1 ?_ ?_<;>simp only[Qg,simprocAttr,hs1]
 ·rw[Le (by rw[h];simp)]at hs1;refine last _ m1 hn1 ?_ ?_<;>simp only[Qg,simprocAttr,hs1]
def Qmy (H0 H:Qa) (v:Value) (ys:List Ar):Prop:=(v=.slice none 0 0∧ys=[])∨∃b,v=.slice (some ⟨b,0,none⟩) ys.length (UNK+11)∧H0.next<=b∧H.get b=some (.cells (Qr ys) Qe false)∧ys≠[]
theorem Qmy.app {H0 H:Qa} {v:Value} {ys:List Ar} {x:Ar} {b1:Nat} {K:Value->Qa->Prop} (h:Qmy H0 H v ys) (hn0:H0.next<=H.next) (hw:H.Wf) (hl:ys.length<=100000) (hb1:H.get b1=some (.cells x.cells Qe false)) (hne:∀a l c,v=.slice (some a) l c->a.block≠b1)
  (hK:∀v' H',H'.Wf->H.next<=H'.next->Qmy H0 H' v' (ys++[x])->(∀a l c,v'=.slice (some a) l c->H.next<=a.block)->(∀id,id<H0.next->H'.get id=H.get id)->K v' H'):Qiq Qe 11 88 v (.slice (some ⟨b1,0,none⟩) 1 1) H K:=by
 have hsrc:Qcu 11 (.slice (some ⟨b1,0,none⟩) 1 1) H=some (1,x.cells):=by
  have:=QdL (size:=11) (m:=1) (b:=b1) (o:=0) (cap:=1) (c:=x.cells) (e:=Qe) (ro:=false) (H:=H) hb1 (by decide) (by rw[WJ];decide);rw[this];rfl
 have a1:x.cells.all (·.oneCell')=true:=rfl;rcases id h with⟨rfl,rfl⟩ | ⟨b,rfl,hb0,hgb,hyn⟩
 ·refine Qks hsrc a1 (by decide) (by decide) (by decide) ?_;have hk:∀id,id<H0.next->(H.push (.cells x.cells Qe false)).get id=H.get id:=λid hid=>by
   rw[Qi,Le (by omega)]
  exact hK _ _ (hw.push _) (by simp) (.inr ⟨H.next,rfl,hn0,by rw[Qi,Lc rfl];simp[Qr],by simp⟩) (λa l c e=>by cases e;exact Lb _) hk
 ·have hbl:=hw.lt hgb;have hbn:b≠b1:=hne _ _ _ rfl;refine Qhv rfl hsrc a1 (by decide) (c:=Qr ys) hgb (by rw[W1];omega) (by omega) (by omega) (by unfold UNK;omega) ?_;have hk:∀id,id<H0.next->((H.kill b).push (.cells (Qr ys++x.cells) Qe false)).get id=H.get id:=λid hid=>by
   rw[Qi,Le (by simp;omega),J4,Le (by omega)]
  have:=hK (.slice (some ⟨H.next,0,none⟩) (ys.length+1) (UNK+11)) ((H.kill b).push (.cells (Qr ys++x.cells) Qe false)) ((hw.kill _).push _) (by simp)
   (.inr ⟨H.next,by simp,hn0,by rw[Qi,Lc (by simp),Qu9],by simp⟩) (λa l c e=>by cases e;exact Lb _) hk
  exact this
theorem Qmy.at {H0 H:Qa} {v:Value} {ys:List Ar} (h:Qmy H0 H v ys):XJ H v ys:=by
 rcases h with⟨rfl,rfl⟩ | ⟨b,rfl,_,hg,_⟩
 ·exact⟨none,0,rfl,λh=>absurd h (NX 0)⟩
 ·exact⟨_,_,rfl,λ_=>⟨b,_,_,rfl,hg⟩⟩
def opL (c:Rr) (n is4:Int):List Ar:=(List.range c.x.f.shapes.length).map λk=>opA c (c.x.f.shapes.getD k 0) (c.x.f.slots.getD k 0) n is4
theorem QBj (c:Rr) (n is4:Int) (k:Nat) (h:k<c.x.f.shapes.length):(opL c n is4).take (k+1)=(opL c n is4).take k++[opA c (c.x.f.shapes.getD k 0) (c.x.f.slots.getD k 0) n is4]:=by
 unfold opL;rw[<- List.map_take,<- List.map_take,List.take_range,List.take_range,BC (by omega),BC (by omega),R0,N6];rfl
theorem Qmy.below {H0 H:Qa} {v:Value} {ys:List Ar} (h:Qmy H0 H v ys) (hw:H.Wf):Qs H.next 6 v=true:=by
 rcases h with⟨rfl,rfl⟩ | ⟨b,rfl,_,hg,_⟩
 ·rfl
 ·have:=hw.lt hg;show Nat.ble (b+1) H.next=true;exact BL▸this
theorem Qmy.ext {H0 H H':Qa} {v:Value} {ys:List Ar} (h:Qmy H0 H v ys) (hw:H.Wf) (hx:Ext H H'):Qmy H0 H' v ys:=by
 rcases h with h | ⟨b,h1,h2,h3,h4⟩
 ·exact .inl h
 ·exact .inr ⟨b,h1,h2,by rw[hx.get b (hw.lt h3)];exact h3,h4⟩
theorem Qmy.put {H0 H:Qa} {v:Value} {ys:List Ar} (h:Qmy H0 H v ys) {i:Nat} (hne:∀a l c,v=.slice (some a) l c->i≠a.block) (B:Blk):Qmy H0 (H.set i B) v ys:=by
 rcases h with h | ⟨b,rfl,h2,h3,h4⟩
 ·exact .inl h
 ·exact .inr ⟨b,rfl,h2,by rw[Qm,Le (λe=>hne _ _ _ rfl e.symm)];exact h3,h4⟩
theorem Wp.same {H H1 H5 H6:Qa} {b:Nat} {c:Rr} (h:Wp H H5 b c) (hn:H5.next<=H6.next) (h1:H.next<=H1.next) (hb:b<H1.next) (hs:∀id,id<H1.next->H6.get id=H5.get id):Wp H H6 b c:=
 ⟨N8 h.next hn,λid hid hne=>by rw[hs id (by omega)];exact h.get id hid hne,by rw[hs b hb];exact h.at_⟩
theorem VF.same {H0 H1 H5 H6:Qa} {b:Nat} {c:Rr} {bs:List Int} (h:VF H0 H5 b c bs) (hn:H5.next<=H6.next) (h1:H0.next<=H1.next) (hb:b<H1.next) (hs:∀id,id<H1.next->H6.get id=H5.get id):VF H0 H6 b c bs:=
 ⟨h.wf,⟨N8 h.hx.next hn,λid hid=>by rw[hs id (by omega)];exact h.hx.get id hid⟩,h.lo,by rw[hs b hb];exact h.at_,h.fm,h.by_,h.len,h.p0⟩
theorem QDC {H0 H H1:Qa} (b bt bi:Nat) (c:Rr) (bs:List Int) (n is4:Int) (A:Env) (ks:Kp) (k:Env->Qa->Prop) (hw1:H1.Wf) (hrd:VF H0 H1 b c bs) (oc:Wp H H1 b c) (hb:b<H.next) (hbt:H.next<=bt) (hbi:H.next<=bi) (hti:bt≠bi) (hs:c.x.f.shapes.length=c.x.f.slots.length)
  (a0:A 0=.pointer (some ⟨b,0,none⟩)) (a2:A 2=.pointer (some ⟨bt,0,none⟩)) (a6:A 6=.int .i64 is4) (a7:A 7=.int .i64 n) (a9:A 9=.pointer (some ⟨bi,0,none⟩))
  (gt:H1.get bt=some (.cells [.int .i64 0,.slice none 0 0] Qd false)) (gi:H1.get bi=some (.cells [.int .i64 c.x.f.op,.slice none 0 0] Qd false))
  (hk:∀ (A':Env) (H':Qa) (v:Value),H'.Wf->A' 0=.pointer (some ⟨b,0,none⟩)->A' 2=.pointer (some ⟨bt,0,none⟩)->A' 9=.pointer (some ⟨bi,0,none⟩)->VF H0 H' b c bs->Wp H H' b c->H'.get bt=some (.cells [.int .i64 0,.slice none 0 0] Qd false)->H'.get bi=some (.cells [.int .i64 c.x.f.op,v] Qd false)->XJ H' v (opL c n is4)->k A' H'):
  Qn prog (.seq (.ops [⟨some 109,.mv (t 0),none,false⟩,⟨some 110,.gen (.nilCheck (t 109)),none,false⟩,⟨some 111,.fldA 0 (t 110),none,false⟩,⟨some 112,.fldA 1 (t 111),none,false⟩,⟨some 113,.ld false 1 (t 112),none,false⟩,⟨some 114,.lenS (t 113),none,false⟩,⟨some 115,.mv (.const (.int .i64 0)),none,false⟩]) (.block 0 (.loop YZ))) ks k A H1:=by
 obtain⟨sa,sc,se,ss⟩:=id hrd.fm.2.2.1;obtain⟨ta,tc,te,ts⟩:=id hrd.fm.2.2.2;have hsv:c.cells[1]? = some (.slice sa c.x.f.shapes.length sc):=by rw[rr1,se]
 have htv:c.cells[2]? = some (.slice ta c.x.f.slots.length tc):=by rw[<- te];rfl
 have hsl:=hrd.fm.1;simp only[Qb,simprocAttr,a0,hrd.at_,hsv];refine QE (λm A' H'=>∃ (i:Nat) (v:Value),i<=c.x.f.shapes.length∧m=c.x.f.shapes.length - i∧A' 0=.pointer (some ⟨b,0,none⟩)∧A' 2=.pointer (some ⟨bt,0,none⟩)∧A' 6=.int .i64 is4∧A' 7=.int .i64 n∧A' 9=.pointer (some ⟨bi,0,none⟩)∧
   A' 113=.slice sa c.x.f.shapes.length sc∧A' 114=.int .i64 c.x.f.shapes.length∧A' 115=.int .i64 i∧H'.Wf∧H1.next<=H'.next∧VF H0 H' b c bs∧Wp H H' b c∧H'.get bt=some (.cells [.int .i64 0,.slice none 0 0] Qd false)∧H'.get bi=some (.cells [.int .i64 c.x.f.op,v] Qd false)∧Qmy H1 H' v ((opL c n is4).take i)) c.x.f.shapes.length ?_ ?_
 ·refine⟨0,.slice none 0 0,L7 _,by omega,?_,?_,?_,?_,?_,?_,?_,?_,hw1,Lb _,hrd,oc,gt,gi,.inl ⟨rfl,rfl⟩⟩
  all_goals simp only[Qg,simprocAttr,a0,a2,a6,a7,a9]
  all_goals rfl
 ·rintro m A' H' ⟨i,v,hi,rfl,r0,r2,r6,r7,r9,r113,r114,r115,hw',hn',hrd',oc',gt',gi',hacc⟩;simp only[YZ,Qb,simprocAttr,r114,r115]
  by_cases h3:i<c.x.f.shapes.length
  ·have h3':(i:Int)<c.x.f.shapes.length:=by omega
   have htk:=QBj c n is4 i h3;obtain⟨b1,e1,ro1,rfl,hb1⟩:=ss (by omega);obtain⟨b2,e2,ro2,rfl,hb2⟩:=ts (by omega);have hb1':H'.get b1=some (.cells (ints c.x.f.shapes) e1 ro1):=(hrd'.hx.get b1 (hrd'.wf.lt hb1)).trans hb1;have hb2':H'.get b2=some (.cells (ints c.x.f.slots) e2 ro2):=(hrd'.hx.get b2 (hrd'.wf.lt hb2)).trans hb2;have d1:(0:Int)<=i∧(i:Int)<c.x.f.shapes.length:=by omega
   have d2:(0:Int)<=i∧(i:Int)<c.x.f.slots.length:=by omega
   have d3:(i:Int).toNat=i:=by omega
   have g1:=XQ (l:=c.x.f.shapes) (i:=i) (by omega);have g2:=XQ (l:=c.x.f.slots) (i:=i) (by omega);generalize c.x.f.shapes.getD i 0=s at *;generalize c.x.f.slots.getD i 0=sl at *;have ei:IntKind.i64.wrap ((i:Int)+1)=((i+1:Nat):Int):=by rw[w64 (by unfold I64;omega)];omega
   simp only[h3',Nf,GJ,Qb,simprocAttr,r0,r6,r7,r9,r113,r115,d1,d2,d3,hb1',g1,gi',hrd'.at_,htv,hb2',g2];refine⟨hacc.below hw',?_⟩;refine(Qzx b c s sl n is4 H' hrd'.at_).thenW ?_;rintro _ _ hn4 hw4 ⟨rfl,k4,rfl⟩;have hk4:H'.next<=k4:=hn4;have hx4:Ext H' (H'.up k4):=(Ext.refl H').up hk4;have ha4:=hacc.ext hw' hx4;have hrd4:=hrd'.up hk4;have oc4:=oc'.up hk4;have gt4:(H'.up k4).get bt=some (.cells [.int .i64 0,.slice none 0 0] Qd false):=by rw[W3];exact gt'
   have gi4:(H'.up k4).get bi=some (.cells [.int .i64 c.x.f.op,v] Qd false):=by rw[W3];exact gi'
   have hm4:H1.next<=(H'.up k4).next:=N8 hn' hk4;refine⟨hx4.eqB,?_⟩;generalize H'.up k4=H4 at *;generalize opA c s sl n is4=x at *;have tk:List.take 11 x.cells=x.cells:=rfl;have xl:x.cells.length=11:=rfl;simp only[Qb,simprocAttr,r0,r2,r6,r7,r9,xl,tk];have hx5:Ext H4 (H4.push (.cells x.cells Qe false)):=(Ext.refl H4).push _;have hw5:=hw4.push (.cells x.cells Qe false);have hrd5:=hrd4.only ((Wp.refl hrd4.at_).ext (hw4.lt hrd4.at_) hx5) rfl rfl hrd4.p0;have oc5:=oc4.ext hb hx5;have gt5:=(hx5.get _ (hw4.lt gt4)).trans gt4;have gi5:=(hx5.get _ (hw4.lt gi4)).trans gi4;have ha5:=ha4.ext hw4 hx5;have hH1:H.next<=H1.next:=oc.next;have hH0:H0.next<=H1.next:=hrd.hx.next;have hlo:=hrd.lo;have hbt1:=hw1.lt gt;have hbi1:=hw1.lt gi;have hb1':b<H1.next:=by omega
   have hlen:((opL c n is4).take i).length<=100000:=by rw[Sb];omega
   have hbl:=ha4.below hw4;have hn5:H1.next<=(H4.push (.cells x.cells Qe false)).next:=by simp only[Ql];omega
   refine ha5.app hn5 hw5 hlen (b1:=H4.next) (by rw[Qi,Lc rfl]) (λa l cc e=>?_) ?_
   ·rcases ha4 with⟨e2,_⟩ | ⟨b4,e2,_,hg4,_⟩
    ·rw[e2]at e;cases e
    ·rw[e2]at e;cases e;have:=hw4.lt hg4;show b4≠H4.next;omega
   ·intro v' H6 hw6 hn6 ha6 hfr hsame;have hrd6:=hrd5.same hn6 hH0 hb1' hsame;have oc6:=oc5.same hn6 hH1 hb1' hsame;have gt6:=(hsame bt hbt1).trans gt5;have gi6:=(hsame bi hbi1).trans gi5;have hbib:bi≠b:=by omega
    rw[<- htk]at ha6;obtain⟨a',l',cc',rfl⟩:∃a' l' cc',v'=.slice a' l' cc':=by
     rcases ha6 with⟨rfl,_⟩ | ⟨b6,rfl,_⟩
     ·exact⟨_,_,_,rfl⟩
     ·exact⟨_,_,_,rfl⟩
    simp only[Qb,simprocAttr,r0,r2,r6,r7,r9,gi6,r115,ei];refine⟨_,?_,i+1,_,h3,rfl,?_,?_,?_,?_,?_,?_,?_,?_,hw6.set gi6 _,?_,hrd6.put (by omega) hbib _,oc6.put hbi hbib _,?_,?_,ha6.put (λa l cc e=>?_) _⟩
    ·omega
    all_goals (try simp only[Qg,simprocAttr,r0,r2,r6,r7,r9,r113,r114])
    ·exact N8 hn5 hn6
    ·rw[Qm,Le hti];exact gt6
    ·rw[Qm,Lc rfl]
    ·have:=hfr a l cc e;omega
  ·have h3':¬ (i:Int)<c.x.f.shapes.length:=by omega
   obtain rfl:i=c.x.f.shapes.length:=by omega
   simp only[h3',NE,Qb,simprocAttr];have hall:(opL c n is4).take c.x.f.shapes.length=opL c n is4:=LF (by unfold opL;rw[Nn,BO];exact Lb _);rw[hall]at hacc;refine hk _ H' v hw' ?_ ?_ ?_ hrd' oc' gt' gi' hacc.at
   all_goals simp only[Qg,simprocAttr,r0,r2,r9]
structure Dr where
 op:Int
 l:List Ar
 n:Int
 e:Int
def Qgi (e:Int):Dr:=⟨0,[],0,e⟩
def Qk0 (H:Qa) (b:Nat) (r:Dr):Value->Qa->Prop:=λu H'=>
 H.next<=H'.next∧(∀id,id<H.next->id≠b->H'.get id=H.get id)∧∃v',u=.tuple #[.agg #[.int .i64 r.op,v'],.int .i64 r.n,.int .i64 r.e]∧QqZ H' v' r.l∧∀a n c,v'=.slice (some a) n c->H.next<=a.block
theorem Qk0.err {H H':Qa} {b:Nat} {c:Rr} {r:Dr} {e:Int} (oc:Wp H H' b c) (h:r=Qgi e):Qk0 H b r (.tuple #[.agg #[.int .i64 0,.slice none 0 0],.int .i64 0,.int .i64 e]) H':=by
 subst h;exact⟨oc.next,oc.get,_,rfl,⟨none,0,rfl,λh=>absurd h (NX 0)⟩,λa n c h=>by cases h⟩
def QpB (op p:Int) (l:List Ar):Dr:=if((Xd op l).2.2==0)=false then Qgi 4 else⟨(Xd op l).1,(Xd op l).2.1,p,0⟩
theorem QFO {H0 H H1:Qa} (b bt bi:Nat) (c:Rr) (bs:List Int) (op:Int) (l:List Ar) (v:Value) (r:Dr) (A:Env) (e:Nat->Env->Qa->Prop) (hw:H.Wf) (hw1:H1.Wf) (hrd:VF H0 H1 b c bs) (oc:Wp H H1 b c) (hb:b<H.next) (hbt:H.next<=bt) (hbi:H.next<=bi) (hti:bt≠bi)
  (a0:A 0=.pointer (some ⟨b,0,none⟩)) (a2:A 2=.pointer (some ⟨bt,0,none⟩)) (a9:A 9=.pointer (some ⟨bi,0,none⟩))
  (gt:H1.get bt=some (.cells [.int .i64 0,.slice none 0 0] Qd false)) (gi:H1.get bi=some (.cells [.int .i64 op,v] Qd false)) (hv:XJ H1 v l) (hl:l.length<=1000) (hI:∀a∈l,I64 a.n) (hr:r=QpB op c.p l):
  Qn prog XE ⟨Rt prog Wd H (Qk0 H b r),e⟩ (Rt prog Wd H (Qk0 H b r)) A H1:=by
 obtain⟨va,vc,rfl,_⟩:=id hv;have hr1:r=if((Xd op l).2.2==0)=false then Qgi 4 else⟨(Xd op l).1,(Xd op l).2.1,c.p,0⟩:=hr
 clear hr;simp only[XE,Qb,simprocAttr,a9,gi];refine(QtA op l H1 _ hv hl hI).thenW ?_;rintro _ H2 hn2 hw2 ⟨hx2,v',rfl,hv',hfr⟩;have oc2:=oc.ext hb hx2;have gt2:=(hx2.get _ (hw1.lt gt)).trans gt;have hrd2:=hrd.only ((Wp.refl hrd.at_).ext (hw1.lt hrd.at_) hx2) rfl rfl hrd.p0;generalize Xd op l=w at *;obtain⟨va',vc',rfl,hv2⟩:=id hv';simp only[Qb,simprocAttr,a2];have hbt2:=hw2.lt gt2;have hbb:b<H2.next:=N5 hb oc2.next;have hne:(b=H2.next)=False:=by simp;omega
 have hne2:(bt=H2.next)=False:=by simp;omega
 have hne3:(bt=b)=False:=by simp;omega
 have hne4:(b=bt)=False:=by simp;omega
 have hoc:=λB C D=>(oc2.ext hb (((Ext.refl H2).push B).set (i:=H2.next) (Lb _) C)).put (i:=bt) hbt (by omega) D;have hnx:=hx2.next;have hH1:=oc.next;cases z:w.2.2==0 with
 | false=>
  rw[Lc z]at hr1;simp only[Qb,simprocAttr,z,a2,gt2,hne,hne2,hne3,hne4,WX];exact .mk (hoc _ _ _).next (.err (hoc _ _ _) hr1)
 | true=>
  rw[Le (by rw[z];decide)]at hr1;simp only[Qb,simprocAttr,z,a0,a2,gt2,hne,hne2,hne3,hne4,hrd2.at_,QkU,WX];have hbt1:=hw1.lt gt;refine⟨rfl,.mk (hoc _ _ _).next ⟨(hoc _ _ _).next,(hoc _ _ _).get,_,by rw[hr1],?_,λa n cc h=>?_⟩⟩
  ·rw[hr1];refine⟨va',vc',rfl,λh=>?_⟩;obtain⟨b2,rfl,hg⟩:=hv2 h;have h1:=hfr _ _ _ rfl;have h2:=hw2.lt hg;simp only at h1;exact⟨b2,rfl,by rw[Qm,Le (by omega),Qm,Le (by omega),Qi,Le (by omega)];exact hg⟩
  ·have:=hfr a n cc h;omega
theorem Qq0 (x:Int):I64 (IntKind.i64.wrap x):=QqK x
theorem QBq (y:Int) (k:Nat) (h:I64 y):I64 (y.fdiv (2 ^ k)):=by
 have hd:(1:Int)<=2 ^ k:=by
  have:=Int.pow_pos (n:=2) (m:=k) (by decide);omega
 generalize (2:Int) ^ k=d at *;rw[Np _ (by omega)]
 by_cases hy:0<=y
 ·have h1:=Int.ediv_nonneg hy (show(0:Int)<=d by omega);have h2:=Int.ediv_le_self d hy;unfold I64 at *;omega
 ·have h1:=Int.ediv_neg_of_neg_of_pos (show y<0 by omega) (show(0:Int)<d by omega);have h2:y<=y / d:=(Int.le_ediv_iff_mul_le (by omega)).2 (by
   have:=Int.mul_le_mul_of_nonpos_left (a:=y) (show y<=0 by omega) hd;omega)
  unfold I64 at *;omega
theorem QzD (x b:Int):I64 (Qnb x b):=by
 unfold Qnb;split
 ·unfold I64;omega
 ·exact QBq _ _ (Qq0 _)
theorem QBr (bs:List Int) (p sz:Int) (sg:Bool):I64 (Yz bs p sz sg).1:=by
 have z:I64 0:=by unfold I64;omega
 unfold Yz
 repeat' split
 all_goals first
  | exact z
  | exact QzD _ _
  | exact Qq0 _
theorem QtB (bs:List Int) (p sz:Int) (sg:Bool) (h:((Yz bs p sz sg).2==0)=true):0<=p∧p+sz<=bs.length:=by
 unfold Yz at h;split at h
 ·simp at h
 ·split at h
  ·simp at h
  ·rename_i h2;split at h
   ·simp at h
   ·simp only[Nw,Lv,not_or,Int.not_lt]at h2;omega
theorem QDE (c:Rr) (n is4:Int) (h:I64 n):∀a∈opL c n is4,I64 a.n:=by
 have z:I64 0:=by unfold I64;omega
 have o:I64 1:=by unfold I64;omega
 intro a ha;unfold opL at ha;rw[N4]at ha;obtain⟨k,_,rfl⟩:=ha;unfold opA Qu8
 repeat' split
 all_goals first
  | exact h
  | exact z
  | exact o
theorem QHf {H0 H H1:Qa} (b bt:Nat) (c:Rr) (bs:List Int) (n is4:Int) (r:Dr) (A:Env) (e:Nat->Env->Qa->Prop) (hw:H.Wf) (hw1:H1.Wf) (hrd:VF H0 H1 b c bs) (oc:Wp H H1 b c) (hb:b<H.next) (hbt:H.next<=bt) (hs:c.x.f.shapes.length=c.x.f.slots.length) (hn:I64 n)
  (a0:A 0=.pointer (some ⟨b,0,none⟩)) (a2:A 2=.pointer (some ⟨bt,0,none⟩)) (a6:A 6=.int .i64 is4) (a7:A 7=.int .i64 n)
  (gt:H1.get bt=some (.cells [.int .i64 0,.slice none 0 0] Qd false)) (hr:r=QpB c.x.f.op c.p (opL c n is4)):
  Qn prog WN ⟨Rt prog Wd H (Qk0 H b r),e⟩ (Rt prog Wd H (Qk0 H b r)) A H1:=by
 have rr0:c.cells[0]? = some (.int .i64 c.x.f.op):=rfl;have hbt1:=hw1.lt gt;have hH1:=oc.next;rw[WN];rw[Kq];generalize hK:Qn prog (PC.seq _ XE) _ _=K;simp only[Qb,simprocAttr,a0,hrd.at_,rr0];have hx2:Ext H1 ((H1.push (.cells [.int .i64 0,.slice none 0 0] Qd false)).set H1.next (.cells [.int .i64 c.x.f.op,.slice none 0 0] Qd false)):=((Ext.refl H1).push _).set (Lb _) _;have hw2:((H1.push (.cells [.int .i64 0,.slice none 0 0] Qd false)).set H1.next (.cells [.int .i64 c.x.f.op,.slice none 0 0] Qd false)).Wf:=(hw1.push _).set (by rw[Qi,Lc rfl]) _;have gi2:((H1.push (.cells [.int .i64 0,.slice none 0 0] Qd false)).set H1.next (.cells [.int .i64 c.x.f.op,.slice none 0 0] Qd false)).get H1.next=some (.cells [.int .i64 c.x.f.op,.slice none 0 0] Qd false):=by rw[Qm,Lc rfl]
 generalize (H1.push (.cells [.int .i64 0,.slice none 0 0] Qd false)).set H1.next (.cells [.int .i64 c.x.f.op,.slice none 0 0] Qd false)=H2 at *;have hrd2:=hrd.only ((Wp.refl hrd.at_).ext (hw1.lt hrd.at_) hx2) rfl rfl hrd.p0;have oc2:=oc.ext hb hx2;have gt2:=(hx2.get _ hbt1).trans gt;have hsl:=hrd.fm.1;rw[<- hK,Kq];refine QDC b bt H1.next c bs n is4 _ _ _ hw2 hrd2 oc2 hb hbt hH1 (by omega) hs ?_ ?_ ?_ ?_ ?_ gt2 gi2 ?_
 ·simp only[Qg,simprocAttr,a0]
 ·simp only[Qg,simprocAttr,a2]
 ·simp only[Qg,simprocAttr,a6]
 ·simp only[Qg,simprocAttr,a7]
 ·simp only[Qg,simprocAttr]
 ·intro A' H' v hw' r0 r2 r9 hrd' oc' gt' gi' hv';exact QFO b bt H1.next c bs c.x.f.op (opL c n is4) v r A' e hw hw' hrd' oc' hb hbt hH1 (by omega) r0 r2 r9 gt' gi' hv' (by unfold opL;rw[Nn,BO];exact hsl) (QDE c n is4 hn) hr
def QsD (bs:List Int) (p:Int):Int:=IntKind.u8.wrap (BitVec.ofInt IntKind.u8.bits (bs.getD p.toNat 0) &&& BitVec.ofInt IntKind.u8.bits 15).toNat
def hi4 (bs:List Int) (p:Int):Int:=IntKind.i64.wrap ((bs.getD p.toNat 0).fdiv (2 ^ (min (Int.toNat 4) IntKind.u8.bits)))
def QtC (bs:List Int) (c:Rr) (n:Int):Dr:=
  if decide (0<=QC c.x.f.slots 7)=true then
    (if(bs.length:Int)<=c.p then Qgi 9
     else if(QsD bs c.p==0)=false then Qgi 4
     else QpB c.x.f.op (IntKind.i64.wrap (c.p+1)) (opL c n (hi4 bs c.p)))
  else QpB c.x.f.op c.p (opL c n 0)
theorem QHg {H0 H H1:Qa} (b bt:Nat) (c:Rr) (bs:List Int) (n:Int) (r:Dr) (A:Env) (e:Nat->Env->Qa->Prop) (hw:H.Wf) (hw1:H1.Wf) (hrd:VF H0 H1 b c bs) (oc:Wp H H1 b c) (hb:b<H.next) (hbt:H.next<=bt) (hs:c.x.f.shapes.length=c.x.f.slots.length) (hn:I64 n)
    (a0:A 0=.pointer (some ⟨b,0,none⟩)) (a2:A 2=.pointer (some ⟨bt,0,none⟩)) (a6:A 6=.int .i64 0) (a7:A 7=.int .i64 n)
    (gt:H1.get bt=some (.cells [.int .i64 0,.slice none 0 0] Qd false)) (hr:r=QtC bs c n):
    Qn prog WO ⟨Rt prog Wd H (Qk0 H b r),e⟩ (Rt prog Wd H (Qk0 H b r)) A H1:=by
  have hr1:r=if decide (0<=QC c.x.f.slots 7)=true then
    (if(bs.length:Int)<=c.p then Qgi 9
     else if(QsD bs c.p==0)=false then Qgi 4
     else QpB c.x.f.op (IntKind.i64.wrap (c.p+1)) (opL c n (hi4 bs c.p)))
    else QpB c.x.f.op c.p (opL c n 0):=hr
  clear hr;have hbt1:=hw1.lt gt;obtain⟨hw0,hx,lo,hc,fm,by_,len,p0⟩:=id hrd;obtain⟨a,cap,hbv,hby⟩:=id by_;have hbvc:c.cells[10]? = some (.slice a bs.length cap):=by rw[QrX,hbv]
  have qs:=XS c.x 7 H1 (fm.ext hw0 hx);generalize QC c.x.f.slots 7=i7 at *;have e8:WO=.seq (.seq (.ops [⟨some 54,.mv (t 0),none,false⟩,⟨some 55,.gen (.nilCheck (t 54)),none,false⟩,⟨some 56,.fldA 0 (t 55),none,false⟩,⟨some 57,.ld true 10 (t 56),none,false⟩,⟨some 58,.call WM [(t 57),(.const (.int .i64 7))],none,false⟩,⟨some 59,.bin .geq (t 58) (.const (.int .i64 0)),none,false⟩]) (.cond (t 59) Y0 .skip)) WN:=rfl;rw[e8,Kq];generalize hK:Qn prog WN _ _=K;simp only[sxA,sxB,Nat.reduceBEq,Nat.reduceEqDiff,reduceCtorEq,mxA,mxB,Nat.reduceAdd,reduceIte,Nat.reduceLeDiff,splice,a0,hc,Xl,Y6];refine qs.thenW ?_;rintro _ _ hn2 hw2 ⟨rfl,k,rfl⟩;have hk:H1.next<=k:=hn2;have hrd2:=hrd.up hk;have oc2:=oc.up hk;have gt2:(H1.up k).get bt=some (.cells [.int .i64 0,.slice none 0 0] Qd false):=by rw[W3];exact gt
  have hne:(bt=b)=False:=by simp;omega
  cases z:decide (0<=i7) with
  | false=>
    rw[Le (by rw[z];decide)]at hr1;simp only[sxA,sxB,Nat.reduceBEq,Nat.reduceEqDiff,reduceCtorEq,mxA,mxB,Nat.reduceAdd,reduceIte,Nat.reduceLeDiff,splice,z];rw[<- hK];refine QHf b bt c bs n 0 r _ e hw hw2 hrd2 oc2 hb hbt hs hn ?_ ?_ ?_ ?_ gt2 hr1
    all_goals simp only[uxA,uxB,Nat.reduceBEq,a0,a2,a6,a7]
  | true=>
    rw[Lc z]at hr1;simp only[Y0,sxA,sxB,Nat.reduceBEq,Nat.reduceEqDiff,reduceCtorEq,mxA,mxB,Nat.reduceAdd,reduceIte,Nat.reduceLeDiff,splice,z,a0,hc,QkU,hbvc]
    by_cases g:(bs.length:Int)<=c.p
    · rw[Lc g]at hr1
      simp only[g,Nf,sxA,sxB,Nat.reduceBEq,Nat.reduceEqDiff,reduceCtorEq,mxA,mxB,Nat.reduceAdd,reduceIte,Nat.reduceLeDiff,splice,a2,gt,hne,WX];exact .mk (oc2.put hbt (by omega) _).next (.err (oc2.put hbt (by omega) _) hr1)
    · rw[Le g]at hr1
      obtain⟨bb,o,e',ro,cs,rfl,hg,hcs⟩:=hby (by omega);have hg':H1.get bb=some (.cells cs e' ro):=(hx.get bb (hw0.lt hg)).trans hg;have c1:(0:Int)<=c.p∧c.p<bs.length:=by omega
      have g1:=hcs c.p.toNat (by omega);have h15:IntKind.u8.wrap (BitVec.ofInt IntKind.u8.bits (bs.getD c.p.toNat 0) &&& BitVec.ofInt IntKind.u8.bits 15).toNat=QsD bs c.p:=rfl;have hh4:IntKind.i64.wrap ((bs.getD c.p.toNat 0).fdiv (2 ^ (min (Int.toNat 4) IntKind.u8.bits)))=hi4 bs c.p:=rfl;have h4:(0:Int)<=4:=by omega
      simp only[g,NE,GM,sxA,sxB,Nat.reduceBEq,Nat.reduceEqDiff,reduceCtorEq,mxA,mxB,Nat.reduceAdd,reduceIte,Nat.reduceLeDiff,splice,a0,hc,QkU,hbvc,c1,hg',g1,h15];cases z2:QsD bs c.p==0 with
      | false=>
        rw[Lc z2]at hr1;simp only[sxA,sxB,Nat.reduceBEq,Nat.reduceEqDiff,reduceCtorEq,mxA,mxB,Nat.reduceAdd,reduceIte,Nat.reduceLeDiff,splice,a2,gt,hne,WX];exact .mk (oc2.put hbt (by omega) _).next (.err (oc2.put hbt (by omega) _) hr1)
      | true=>
        rw[Le (by rw[z2];decide)]at hr1;simp only[GL,sxA,sxB,Nat.reduceBEq,Nat.reduceEqDiff,reduceCtorEq,mxA,mxB,Nat.reduceAdd,reduceIte,Nat.reduceLeDiff,splice,a0,hc,QkU,hbvc,c1,hg',g1,h4,hh4,Xl,QwU];rw[<- hK];have p1:IntKind.i64.wrap (c.p+1)=c.p+1:=w64 (by unfold I64;omega);have oc3:=(Wp.refl hrd2.at_).set {c with p:=IntKind.i64.wrap (c.p+1)};refine QHf b bt {c with p:=IntKind.i64.wrap (c.p+1)} bs n (hi4 bs c.p) r _ e hw (hw2.set hrd2.at_ _) (hrd2.only oc3 rfl rfl (by show 0<=IntKind.i64.wrap (c.p+1)∧IntKind.i64.wrap (c.p+1)<=bs.length;rw[p1];omega)) (oc2.set _) hb hbt hs hn ?_ ?_ ?_ ?_ (by rw[Qm,Le (by omega)];exact gt2) hr1
        all_goals simp only[uxA,uxB,Nat.reduceBEq,a0,a2,a6,a7]
def Qob (bs:List Int) (c:Rr):Dr:=
  if decide (0<tl1 c.x.f)=true then
    (if((Yz bs c.p (tl1 c.x.f) true).2==0)=false then Qgi (Yz bs c.p (tl1 c.x.f) true).2
     else QtC bs {c with p:=IntKind.i64.wrap (c.p+tl1 c.x.f)} (Yz bs c.p (tl1 c.x.f) true).1)
  else QtC bs c 0
theorem Qw1 {H0:Qa} (b:Nat) (c:Rr) (bs:List Int) (H:Qa) (h:VF H0 H b c bs) (hs:c.x.f.shapes.length=c.x.f.slots.length):Qh prog Yj [.pointer (some ⟨b,0,none⟩)] H (Qk0 H b (Qob bs c)):=by
  refine Qge λhw=>?_;obtain⟨r,hr⟩:∃r,r=Qob bs c:=⟨_,rfl⟩;rw[<- hr];have hr1:r=if decide (0<tl1 c.x.f)=true then
    (if((Yz bs c.p (tl1 c.x.f) true).2==0)=false then Qgi (Yz bs c.p (tl1 c.x.f) true).2
     else QtC bs {c with p:=IntKind.i64.wrap (c.p+tl1 c.x.f)} (Yz bs c.p (tl1 c.x.f) true).1)
    else QtC bs c 0:=hr
  clear hr;obtain⟨hw0,hx,lo,hc,fm,by_,len,p0⟩:=id h;obtain⟨a,cap,hbv,hby⟩:=id by_;have hbvc:c.cells[10]? = some (.slice a bs.length cap):=by rw[QrX,hbv]
  have hb:b<H.next:=hw.lt hc;have hne:(b=H.next)=False:=by simp;omega
  have hx1:Ext H (H.push (.cells [.int .i64 0,.slice none 0 0] Qd false)):=(Ext.refl H).push _;have gt1:(H.push (.cells [.int .i64 0,.slice none 0 0] Qd false)).get H.next=some (.cells [.int .i64 0,.slice none 0 0] Qd false):=by rw[Qi,Lc rfl]
  have hw1:=hw.push (.cells [.int .i64 0,.slice none 0 0] Qd false);have h1:=h.only ((Wp.refl hc).ext hb hx1) rfl rfl p0;have oc1:=(Wp.refl hc).ext hb hx1;have e10:Xf=.seq (.ops [⟨some 7,.mv (.const (.int .i64 0)),none,false⟩]) (.seq (.seq (.ops [⟨some 27,.mv (t 5),none,false⟩,⟨some 28,.bin .gtr (t 27) (.const (.int .i64 0)),none,false⟩]) (.cond (t 28) Y1 .skip)) WO):=rfl;have main:∀ (A:Env) (H2:Qa),H2.Wf->VF H0 H2 b c bs->Wp H H2 b c->H2.get H.next=some (.cells [.int .i64 0,.slice none 0 0] Qd false)->A 0=.pointer (some ⟨b,0,none⟩)->A 2=.pointer (some ⟨H.next,0,none⟩)->A 5=.int .i64 (tl1 c.x.f)->A 6=.int .i64 0->
      Qn prog Xf ⟨Rt prog Wd H (Qk0 H b r),X2⟩ (Rt prog Wd H (Qk0 H b r)) A H2:=by
    intro A H2 hw2 h2 oc2 gt2 a0 a2 a5 a6;have htl:=Qtv c.x.f;have hbb:b<H2.next:=hw2.lt h2.at_;have hne3:(H.next=b)=False:=by simp;omega
    rw[e10,Kq,Kq];generalize hK:Qn prog WO _ _=K;have byH:QbC H2 c.bv bs:=by
      refine⟨a,cap,hbv,λhl=>?_⟩;obtain⟨bb,o,e,ro,cs,e1,hg,hcs⟩:=hby hl;exact⟨bb,o,e,ro,cs,e1,by rw[h2.hx.get bb (hw0.lt hg),hg],hcs⟩
    have qg:=QgL c.bv bs c.p (tl1 c.x.f) true H2 byH len (by unfold I64;omega);have hp:=QtB bs c.p (tl1 c.x.f) true;have hI:=QBr bs c.p (tl1 c.x.f) true;generalize Yz bs c.p (tl1 c.x.f) true=g at *;simp only[Qb,simprocAttr,a5];generalize tl1 c.x.f=sz at *;cases z:decide (0<sz) with
    | false=>
      rw[Le (by rw[z];decide)]at hr1;have z':decide (sz>0)=false:=z;simp only[Qb,simprocAttr,z'];rw[<- hK];refine QHg b H.next c bs 0 r _ X2 hw hw2 h2 oc2 hb (Lb _) hs (by unfold I64;omega) ?_ ?_ ?_ ?_ gt2 hr1
      all_goals simp only[Qg,simprocAttr,a0,a2,a6]
    | true=>
      rw[Lc z]at hr1;have z':decide (sz>0)=true:=z;simp only[Y1,Qb,simprocAttr,z',a0,a5,h2.at_,QrX,QkU];refine qg.thenW ?_;rintro _ H3 hn3 hw3 ⟨rfl,rfl⟩;simp only[Qb,simprocAttr];cases z2:g.2==0 with
      | false=>
        rw[Lc z2]at hr1;simp only[Qb,simprocAttr,z2,a2,gt2,hne3,WX];exact .mk (oc2.put (Lb _) (by omega) _).next (.err (oc2.put (Lb _) (by omega) _) hr1)
      | true=>
        rw[Le (by rw[z2];decide)]at hr1;have hp2:=hp z2;have p1:IntKind.i64.wrap (c.p+sz)=c.p+sz:=w64 (by unfold I64;omega);simp only[Qb,simprocAttr,z2,a0,a5,h2.at_,QkU,Xl,QwU];rw[<- hK];have oc3:=(Wp.refl h2.at_).set {c with p:=IntKind.i64.wrap (c.p+sz)};refine QHg b H.next {c with p:=IntKind.i64.wrap (c.p+sz)} bs g.1 r _ X2 hw (hw3.set h2.at_ _) (h2.only oc3 rfl rfl (by show 0<=IntKind.i64.wrap (c.p+sz)∧IntKind.i64.wrap (c.p+sz)<=bs.length;rw[p1];omega)) (oc2.set _) hb (Lb _) hs hI ?_ ?_ ?_ ?_ (by rw[Qm,Le (by omega)];exact gt2) hr1
        all_goals simp only[Qg,simprocAttr,a0,a2,a6]
  have qt:=Qtw c.x _ (fm.ext hw0 h1.hx);have qs:=λk (hk:(H.push (.cells [.int .i64 0,.slice none 0 0] Qd false)).next<=k)=>XS c.x 7 _ (fm.ext hw0 (h1.up hk).hx);have ht:tlF c.x.f=bif decide (0<=QC c.x.f.slots 7) then tl1 c.x.f+1 else tl1 c.x.f:=rfl
  have htl:=Qtv c.x.f;generalize tlF c.x.f=tf at *;generalize QC c.x.f.slots 7=i7 at *;generalize hpc:Xf=pc10 at *;simp only[V1,hpc,Qb,simprocAttr,hne,hc,Xl,Y6];generalize H.push (.cells [.int .i64 0,.slice none 0 0] Qd false)=H1 at *;refine qt.thenW ?_;rintro _ _ hn2 hw2 ⟨rfl,k2,rfl⟩;have hk2:H1.next<=k2:=hn2;have c2:=(h1.up hk2).at_;simp only[Qb,simprocAttr,h1.at_,Xl,Y6];refine(qs k2 hk2).thenW ?_;rintro _ _ hn3 hw3 ⟨rfl,k3,rfl⟩;have hk3:(H1.up k2).next<=k3:=hn3;have h3:=(h1.up hk2).up hk3;have oc3:=(oc1.up hk2).up hk3;have gt3:((H1.up k2).up k3).get H.next=some (.cells [.int .i64 0,.slice none 0 0] Qd false):=by rw[W3,W3];exact gt1
  cases z:decide (0<=i7) with
  | false=>
    rw[z]at ht;have ht':tf=tl1 c.x.f:=ht;simp only[Qb,simprocAttr,z];refine main _ _ hw3 h3 oc3 gt3 ?_ ?_ ?_ ?_
    all_goals simp only[Qg,simprocAttr,ht']
  | true=>
    rw[z]at ht;have ht':IntKind.i64.wrap (tf - 1)=tl1 c.x.f:=by
      rw[show tf=tl1 c.x.f+1 from ht,w64 (by unfold I64;omega)];omega
    simp only[Qb,simprocAttr,z,ht'];refine main _ _ hw3 h3 oc3 gt3 ?_ ?_ ?_ ?_
    all_goals simp only[Qg,simprocAttr]
def InB (bs:List Int) (p:Int):Prop:=0<=p∧p<=bs.length
theorem InB.zero (bs:List Int):InB bs 0:=⟨by omega,by omega⟩
theorem InB.wrap {bs:List Int} {p:Int} (hl:bs.length<=1000000) (h:InB bs p):InB bs (IntKind.i64.wrap p):=by
 unfold InB at *;rw[w64 (by unfold I64;omega)];exact h
theorem QzE (md:Int) (m:Mm):0<=Ko md m:=by
 unfold Ko
 repeat' split
 all_goals decide
theorem Qvd {bs:List Int} {p:Int} (mid:Int) (m:Mm) (h:InB bs p):InB bs (Qnh mid p m).1.ends:=by
 unfold Qnh;split
 ·exact h
 ·exact .zero bs
theorem Qoc {bs:List Int} {p:Int} (hl:bs.length<=1000000) (md mid:Int) (m:Mm) (h:InB bs p):InB bs (QdH bs p md mid m).1.ends:=by
 unfold QdH;split
 ·exact Qvd mid m h
 ·split
  ·rename_i h2;have hp:=QtB _ _ _ _ h2;have hw:=QzE md m;exact Qvd mid _ (.wrap hl ⟨by omega,hp.2⟩)
  ·exact .zero bs
theorem QBs {bs:List Int} {p:Int} (hl:bs.length<=1000000) (md mid x bb:Int) (h:InB bs p):InB bs (QqJ bs p md mid x bb).1.ends:=by
 unfold QqJ;split
 ·rename_i h2;have hp:=QtB _ _ _ _ h2;split
  ·exact Qoc hl md mid _ (.wrap hl ⟨by omega,hp.2⟩)
  ·exact .zero bs
 ·exact .zero bs
theorem QzF {bs:List Int} {p:Int} (hl:bs.length<=1000000) (md mid rm x bb:Int) (h:InB bs p):InB bs (Qn4 bs p md mid rm x bb).1.ends:=by
 unfold Qn4;split
 ·exact .zero bs
 ·split
  ·exact h
  ·split
   ·exact QBs hl md mid x bb h
   ·split
    ·split
     ·exact .zero bs
     ·exact Qoc hl md mid _ h
    ·exact Qoc hl md mid _ h
theorem QFP {bs:List Int} {p:Int} (hl:bs.length<=1000000) (x bb:Int):InB bs (rdF bs p x bb).1.ends:=by
 unfold rdF;split
 ·exact .zero bs
 ·split
  ·rename_i h2;have hp:=QtB _ _ _ _ h2;exact QzF hl _ _ _ x bb (.wrap hl ⟨by omega,hp.2⟩)
  ·exact .zero bs
def Jh (bs:List Int) (c c':Rr):Prop:=c'.x=c.x∧c'.bv=c.bv∧InB bs c'.p
theorem Jh.trans {bs:List Int} {a b c:Rr} (h:Jh bs a b) (h':Jh bs b c):Jh bs a c:=⟨h'.1.trans h.1,h'.2.1.trans h.2.1,h'.2.2⟩
theorem Jh.self {bs:List Int} {c:Rr} (h:InB bs c.p):Jh bs c c:=⟨rfl,rfl,h⟩
theorem QtD {bs:List Int} {c:Rr} (hl:bs.length<=1000000) (n:Int) (h:InB bs c.p):Jh bs c (XC bs c n).2:=⟨rfl,rfl,QqP h hl⟩
theorem QBt {bs:List Int} (hl:bs.length<=1000000):∀ (n:Nat) (left:Int) (c:Rr),InB bs c.p->Jh bs c (QkX bs n left c).2
 | 0,_,c,h=>.self h
 | n+1,left,c,h=>by
  rw[QbY];have k0:=λb=>QtD hl b h
  repeat' split
  all_goals first
   | exact(k0 _).trans (QBt hl n _ _ (k0 _).2.2)
   | exact k0 _
   | exact .self h
theorem QBu {bs:List Int} (hl:bs.length<=1000000):∀ (l:List UInt8) (c:Rr),InB bs c.p->Jh bs c (Qnm bs l c).2
 | [],c,h=>.self h
 | n::l,c,h=>by
  have k0:=QtD hl (n.toNat) h;show Jh bs c (if((XC bs c n.toNat).1==0)=true then Qnm bs l (XC bs c n.toNat).2 else XC bs c n.toNat).2;split
  ·exact k0.trans (QBu hl l _ k0.2.2)
  ·exact k0
theorem QDF {bs:List Int} {c:Rr} (hl:bs.length<=1000000) (h:InB bs c.p):Jh bs c (Qnn bs c).2:=by
 have k0:Jh bs c (Qcr bs c).2:=⟨(Qtt bs c).1,(Qtt bs c).2,QBe h hl⟩;unfold Qnn;split
 ·exact k0.trans (QBu hl _ _ k0.2.2)
 ·exact k0
theorem QFQ {bs:List Int} {c:Rr} (hl:bs.length<=1000000) (h:InB bs c.p):Jh bs c (QjW bs c).2:=by
 have k0:=QBt hl 4 c.x.f.pre c h;unfold QjW Qo2;split
 ·exact k0.trans (QDF hl k0.2.2)
 ·exact k0
theorem QBv {bs:List Int} {c:Rr} (h:InB bs c.p):Jh bs c (QhW bs c).2:=by
 have k0:Jh bs c (Qtu bs c):=⟨rfl,rfl,QBg bs⟩;unfold QhW
 repeat' split
 all_goals first
  | exact k0
  | exact .self h
theorem QFR {bs:List Int} {c:Rr} (h:InB bs c.p):Jh bs c (Qpy bs c).2:=by
 have k0:Jh bs c (Qgh bs c):=⟨rfl,rfl,h⟩;unfold Qpy
 repeat' split
 all_goals first
  | exact QBv h
  | exact k0.trans (QBv k0.2.2)
  | exact k0
  | exact .self h
theorem Qya {bs:List Int} {c:Rr} (hl:bs.length<=1000000) (h:InB bs c.p):Jh bs c (Qe0 bs c).2:=by
 unfold Qe0;cases c.x.f.vex with
 | true=>exact QFR h
 | false=>exact QFQ hl h
theorem QES {bs:List Int} {c:Rr} (hl:bs.length<=1000000) (h:InB bs c.p):Jh bs c (opF bs c).2:=by
 unfold opF
 repeat' split
 ·exact QtD hl _ h
 ·exact .self h
 ·have k0:Jh bs c {c with low:=QrY bs c.p}:=⟨rfl,rfl,h⟩;exact k0.trans (QtD hl _ k0.2.2)
theorem QBw {bs:List Int} {c:Rr} (hl:bs.length<=1000000) (h:InB bs c.p):Jh bs c (Qcs bs c).2:=by
 unfold Qcs
 repeat' split
 all_goals first
  | exact .self h
  | exact⟨rfl,rfl,QFP hl _ _⟩
def rd0 (x:Lf) (bv:Value):Rr:=⟨x,bv,0,false,0,0,0,0,0,Zg⟩
def rdH (bs:List Int) (c:Rr):Int×Rr:=Qe0 bs c
def rdO (bs:List Int) (c:Rr):Int×Rr:=bif (rdH bs c).1==0 then opF bs (rdH bs c).2 else rdH bs c
def rdM (bs:List Int) (c:Rr):Int×Rr:=bif (rdO bs c).1==0 then Qcs bs (rdO bs c).2 else rdO bs c
def Qq1 (bs:List Int) (x:Lf) (bv:Value):Dr:=bif (rdM bs (rd0 x bv)).1==0 then Qob bs (rdM bs (rd0 x bv)).2 else Qgi (rdM bs (rd0 x bv)).1
def Qg4 (H:Qa) (r:Dr):Value->Qa->Prop:=λu H'=>
 Ext H H'∧∃v',u=.tuple #[.agg #[.int .i64 r.op,v'],.int .i64 r.n,.int .i64 r.e]∧QqZ H' v' r.l∧∀a n c,v'=.slice (some a) n c->H.next<=a.block
def Qe1 (H:Qa) (r:Dr):Value->Qa->Prop:=λu H'=>
 Ext H H'∧∃v',u=.tuple #[.agg #[.int .i64 r.op,v'],.int .i64 r.n,.int .i64 r.e]∧XJ H' v' r.l∧∀a n c,v'=.slice (some a) n c->H.next<=a.block
def QDG:PC:=.seq (.seq (.ops [⟨some 19,.mv (t 8),none,false⟩,⟨some 20,.bin .neq (t 19) (.const (.int .i64 0)),none,false⟩]) (.cond (t 20) (.seq (.ops [⟨some 21,.build [.int .i64 0,.slice none 0 0] [],none,false⟩,⟨some 22,.mv (t 8),none,false⟩,⟨none,.st 2 (t 4) (t 21),none,false⟩,⟨some 5,.mv (.const (.int .i64 0)),none,false⟩,⟨some 6,.mv (t 22),none,false⟩]) .ret) .skip))
 (.seq (.ops [⟨some 23,.call Yj [(t 7)],none,false⟩,⟨some 24,.ext (t 23) 0,none,false⟩,⟨some 25,.ext (t 23) 1,none,false⟩,⟨some 26,.ext (t 23) 2,none,false⟩,⟨none,.st 2 (t 4) (t 24),none,false⟩,⟨some 5,.mv (t 25),none,false⟩,⟨some 6,.mv (t 26),none,false⟩]) .ret)
def QDH:PC:=.seq (.seq (.ops [⟨some 16,.mv (t 8),none,false⟩,⟨some 17,.bin .eql (t 16) (.const (.int .i64 0)),none,false⟩]) (.cond (t 17) (.ops [⟨some 18,.call Zj [(t 7)],none,false⟩,⟨some 8,.mv (t 18),none,false⟩]) .skip)) QDG
def QFS:PC:=.seq (.seq (.ops [⟨some 13,.mv (t 8),none,false⟩,⟨some 14,.bin .eql (t 13) (.const (.int .i64 0)),none,false⟩]) (.cond (t 14) (.ops [⟨some 15,.call YQ [(t 7)],none,false⟩,⟨some 8,.mv (t 15),none,false⟩]) .skip)) QDH
structure StR (H H3 H4:Qa) (b bt:Nat) (c0 c:Rr) (bs:List Int) (A:Env) (e:Int):Prop where
 wf:H4.Wf
 rd:VF H H4 b c bs
 oc:Wp H3 H4 b c
 kx:c.x=c0.x
 a4:A 4=.pointer (some ⟨bt,0,none⟩)
 a7:A 7=.pointer (some ⟨b,0,none⟩)
 a8:A 8=.int .i64 e
section
variable {H H3:Qa} {b bt:Nat} {c0:Rr} {bs:List Int} {r:Dr}
theorem QFT (hw:H.Wf) (hx3:Ext H H3) (hbt:H.next<=bt) (hb:H.next<=b) (htb:bt≠b) (hbt3:bt<H3.next) (hb3:b<H3.next) (gt3:H3.get bt=some (.cells [.int .i64 0,.slice none 0 0] Qd false)) (hs:c0.x.f.shapes.length=c0.x.f.slots.length)
  (m:Int×Rr) (A:Env) (H4:Qa) (h:StR H H3 H4 b bt c0 m.2 bs A m.1) (hr:r=bif m.1==0 then Qob bs m.2 else Qgi m.1):
  Qn prog QDG ⟨Rt prog Ga H (Qg4 H r),X2⟩ (Rt prog Ga H (Qg4 H r)) A H4:=by
 obtain⟨hw4,hrd,oc,kx,a4,a7,a8⟩:=h;have gt4:=(oc.get bt hbt3 htb).trans gt3;have hx4:=hrd.hx;simp only[QDG,Qb,simprocAttr,a8];cases z:m.1==0 with
 | false=>
  rw[z]at hr;have hr2:r=Qgi m.1:=hr;simp only[Qb,simprocAttr,z,a4,a8,gt4,Qjh];exact .mk (hx4.set hbt _).next ⟨hx4.set hbt _,_,by rw[hr2];rfl,by rw[hr2];exact⟨none,0,rfl,λh=>absurd h (NX 0)⟩,λa n c h=>by cases h⟩
 | true=>
  rw[z]at hr;have hr2:r=Qob bs m.2:=hr;simp only[Qb,simprocAttr,z,a7];refine(Qw1 b m.2 bs H4 hrd (by rw[kx];exact hs)).thenW ?_;rintro _ H5 hn5 hw5 ⟨hn,hk,v',rfl,hv,hfr⟩;have hbt4:=hw4.lt gt4;have gt5:=(hk bt hbt4 htb).trans gt4;have hx5:Ext H H5:=⟨N8 hx4.next hn,λid hid=>by rw[hk id (N5 hid hx4.next) (by omega),hx4.get id hid]⟩;obtain⟨va,vc,rfl,hv2⟩:=id hv;simp only[Qb,simprocAttr,a4,gt5,Qjh];refine .mk (hx5.set hbt _).next ⟨hx5.set hbt _,_,by rw[hr2],?_,λa n c h=>?_⟩
  ·rw[hr2];refine⟨va,vc,rfl,λh=>?_⟩;obtain⟨b2,rfl,hg⟩:=hv2 h;have h1:=hfr _ _ _ rfl;simp only at h1;exact⟨b2,rfl,by rw[Qm,Le (by omega)];exact hg⟩
  ·have:=hfr a n c h;have:=hx4.next;omega
theorem QFU (hw:H.Wf) (hx3:Ext H H3) (hbt:H.next<=bt) (hb:H.next<=b) (htb:bt≠b) (hbt3:bt<H3.next) (hb3:b<H3.next) (gt3:H3.get bt=some (.cells [.int .i64 0,.slice none 0 0] Qd false)) (hs:c0.x.f.shapes.length=c0.x.f.slots.length)
  (o:Int×Rr) (A:Env) (H4:Qa) (h:StR H H3 H4 b bt c0 o.2 bs A o.1) (m:Int×Rr) (hm:m=bif o.1==0 then Qcs bs o.2 else o) (hr:r=bif m.1==0 then Qob bs m.2 else Qgi m.1):
  Qn prog QDH ⟨Rt prog Ga H (Qg4 H r),X2⟩ (Rt prog Ga H (Qg4 H r)) A H4:=by
 have s3:=λm A H4 h=>QFT (r:=r) (c0:=c0) (bs:=bs) hw hx3 hbt hb htb hbt3 hb3 gt3 hs m A H4 h;have h':=h;obtain⟨hw4,hrd,oc,kx,a4,a7,a8⟩:=h;rw[QDH,Kq];generalize hK:Qn prog QDG _ _=K;simp only[Qb,simprocAttr,a8];cases z:o.1==0 with
 | false=>
  rw[z]at hm;have hm2:m=o:=hm;subst hm2;simp only[Qb,simprocAttr];rw[<- hK];refine s3 m _ H4 ⟨hw4,hrd,oc,kx,?_,?_,?_⟩ hr
  all_goals simp only[Qg,simprocAttr,a4,a7,a8]
 | true=>
  rw[z]at hm;have hm2:m=Qcs bs o.2:=hm;have kk:=QBw (c:=o.2) hrd.len hrd.p0;have q:=QqS b o.2 bs H4 hrd (by rw[kx];exact hs);rw[<- hm2]at kk q;simp only[Qb,simprocAttr,a7];refine q.thenW ?_;rintro _ H5 hn5 hw5 ⟨rfl,oc5⟩;simp only[Qb,simprocAttr];rw[<- hK];refine s3 m _ H5 ⟨hw5,hrd.only oc5 kk.1 kk.2.1 kk.2.2,oc.trans oc5,kk.1.trans kx,?_,?_,?_⟩ hr
  all_goals simp only[Qg,simprocAttr,a4,a7]
theorem QFV (hw:H.Wf) (hx3:Ext H H3) (hbt:H.next<=bt) (hb:H.next<=b) (htb:bt≠b) (hbt3:bt<H3.next) (hb3:b<H3.next) (gt3:H3.get bt=some (.cells [.int .i64 0,.slice none 0 0] Qd false)) (hs:c0.x.f.shapes.length=c0.x.f.slots.length)
  (o:Int×Rr) (A:Env) (H4:Qa) (h:StR H H3 H4 b bt c0 o.2 bs A o.1) (m:Int×Rr) (hm:m=bif o.1==0 then opF bs o.2 else o) (w:Int×Rr) (hm':w=bif m.1==0 then Qcs bs m.2 else m) (hr:r=bif w.1==0 then Qob bs w.2 else Qgi w.1):
  Qn prog QFS ⟨Rt prog Ga H (Qg4 H r),X2⟩ (Rt prog Ga H (Qg4 H r)) A H4:=by
 have s3:=λm A H4 h hm=>QFU (r:=r) (c0:=c0) (bs:=bs) hw hx3 hbt hb htb hbt3 hb3 gt3 hs m A H4 h w hm hr;obtain⟨hw4,hrd,oc,kx,a4,a7,a8⟩:=h;rw[QFS,Kq];generalize hK:Qn prog QDH _ _=K;simp only[Qb,simprocAttr,a8];cases z:o.1==0 with
 | false=>
  rw[z]at hm;have hm2:m=o:=hm;subst hm2;simp only[Qb,simprocAttr];rw[<- hK];refine s3 m _ H4 ⟨hw4,hrd,oc,kx,?_,?_,?_⟩ hm'
  all_goals simp only[Qg,simprocAttr,a4,a7,a8]
 | true=>
  rw[z]at hm;have hm2:m=opF bs o.2:=hm;have kk:=QES (c:=o.2) hrd.len hrd.p0;have q:=QA9 b o.2 bs H4 hrd;rw[<- hm2]at kk q;simp only[Qb,simprocAttr,a7];refine q.thenW ?_;rintro _ H5 hn5 hw5 ⟨rfl,oc5⟩;simp only[Qb,simprocAttr];rw[<- hK];refine s3 m _ H5 ⟨hw5,hrd.only oc5 kk.1 kk.2.1 kk.2.2,oc.trans oc5,kk.1.trans kx,?_,?_,?_⟩ hm'
  all_goals simp only[Qg,simprocAttr,a4,a7]
end
theorem Qr2 (x:Lf) (bv:Value) (bs:List Int) (H:Qa) (hx:x.At H) (hb:QbC H bv bs) (hl:bs.length<=1000000) (hs:x.f.shapes.length=x.f.slots.length):Qh prog QaB [.agg x.cells.toArray,bv] H (Qg4 H (Qq1 bs x bv)):=by
 refine Qqz λhw=>?_;obtain⟨va,vc,rfl,_⟩:=id hb;obtain⟨r,hr⟩:∃r,r=Qq1 bs x (.slice va bs.length vc):=⟨_,rfl⟩;rw[<- hr];have hr1:r=bif (rdM bs (rd0 x (.slice va bs.length vc))).1==0 then Qob bs (rdM bs (rd0 x (.slice va bs.length vc))).2 else Qgi (rdM bs (rd0 x (.slice va bs.length vc))).1:=hr
 clear hr;have ex:(Value.agg x.cells.toArray).cells.toList=x.cells:=rfl;obtain⟨sa,sc,se,_⟩:=id hx.2.2.1;obtain⟨ta,tc,te,_⟩:=id hx.2.2.2;have ePC:QkC=.seq (.ops [⟨some 2,.box Qc (t 0),none,false⟩,⟨some 4,.alloc Qd [.int .i64 0,.slice none 0 0],none,false⟩,⟨some 5,.mv (.const (.int .i64 0)),none,false⟩,⟨some 6,.mv (.const (.int .i64 0)),none,false⟩]) (.seq (.ops [⟨some 9,.ld true 10 (t 2),none,false⟩,⟨some 10,.mv (t 1),none,false⟩,⟨some 11,.build [.int .i64 0,.slice none 0 0,.slice none 0 0,.int .i64 0,.int .i64 0,.int .i64 0,.int .i64 0,.int .i64 0,.bool false,.int .i64 0,.slice none 0 0,.int .i64 0,.bool false,.int .i64 0,.int .i64 0,.int .i64 0,.int .i64 0,.int .i64 0,.int .i64 0,.int .i64 0,.int .i64 0,.int .i64 0,.int .i64 0,.int .i64 0,.int .i64 0,.int .i64 0,.int .i64 0,.int .i64 0] [(0,10,(t 9)),(10,1,(t 10))],none,false⟩,⟨some 7,.alloc We [.int .i64 0,.slice none 0 0,.slice none 0 0,.int .i64 0,.int .i64 0,.int .i64 0,.int .i64 0,.int .i64 0,.bool false,.int .i64 0,.slice none 0 0,.int .i64 0,.bool false,.int .i64 0,.int .i64 0,.int .i64 0,.int .i64 0,.int .i64 0,.int .i64 0,.int .i64 0,.int .i64 0,.int .i64 0,.int .i64 0,.int .i64 0,.int .i64 0,.int .i64 0,.int .i64 0,.int .i64 0],none,false⟩,⟨none,.st 28 (t 7) (t 11),none,false⟩]) (.seq (.ops [⟨some 12,.call ZL [(t 7)],none,false⟩,⟨some 8,.mv (t 12),none,false⟩]) QFS)):=rfl;rw[ePC];simp only[ex,Qb,simprocAttr,QG,Wu];change QwG (some (rd0 x (.slice va bs.length vc)).cells) _ _;have c0all:((rd0 x (.slice va bs.length vc)).cells.all λx=>x.oneCell')=true:=by
  show((x.cells++_).all λx=>x.oneCell')=true;rw[Fo,YI hx];rfl
 generalize hc0:rd0 x (.slice va bs.length vc)=c0 at *;have tk0:List.take 28 c0.cells=c0.cells:=LF (FM (Xl c0));simp only[Qb,simprocAttr,Xl,c0all,tk0];generalize hH3:Qa.set _ (H.next+1+1) (.cells c0.cells We false)=H3;have n1:H.next+1≠H.next+1+1:=by omega
 have hx3:Ext H H3:=by
  rw[<- hH3];exact((((Ext.refl H).push _).push _).push _).set (by omega) _
 have hg3:H3.get (H.next+1+1)=some (.cells c0.cells We false):=by rw[<- hH3,Qm,Lc rfl]
 have gt3:H3.get (H.next+1)=some (.cells [.int .i64 0,.slice none 0 0] Qd false):=by
  rw[<- hH3,Qm,Le n1,Qi,Le (by simp only[Ql];omega),Qi,Lc (by simp only[Ql])]
 have hn3:H3.next=H.next+1+1+1:=by rw[<- hH3];simp only[Q4,Ql]
 clear hH3;have x0:c0.x=x:=by rw[<- hc0];rfl
 have b0:c0.bv=.slice va bs.length vc:=by rw[<- hc0];rfl
 have p0:c0.p=0:=by rw[<- hc0];rfl
 have hrd:VF H H3 (H.next+1+1) c0 bs:=⟨hw,hx3,by omega,hg3,by rw[x0];exact hx,by rw[b0];exact hb,hl,by rw[p0];omega⟩;generalize hb9:H.next+1+1=b at *;refine(QFL b c0 bs H3 hrd (by rw[x0];exact hs)).thenW ?_;rintro _ H4 hn4 hw4 ⟨rfl,oc4⟩;have kh:=Qya hl hrd.p0;simp only[Qb,simprocAttr];refine QFV (bt:=H.next+1) (c0:=c0) hw hx3 (by omega) (by omega) n1 (by omega) (by omega) gt3 (by rw[x0];exact hs) (Qe0 bs c0) _ H4 ⟨hw4,hrd.only oc4 kh.1 kh.2.1 kh.2.2,oc4,kh.1,?_,?_,?_⟩ (rdO bs c0) rfl (rdM bs c0) rfl hr1
 all_goals simp only[Qg,simprocAttr]
def Rr.els (s t v:Value) (c:Rr):Rr:={c with x:=⟨c.x.f,s,t⟩,bv:=v}
def Qh0 (s t v:Value) (e:Int×Rr):Int×Rr:=(e.1,e.2.els s t v)
section
variable (bs:List Int) (s t v:Value)
theorem Qa7 (p:Prop) [Decidable p] (a b:Int×Rr):Qh0 s t v (if p then a else b)=if p then Qh0 s t v a else Qh0 s t v b:=by split<;>rfl
theorem Qve:∀ (n:Nat) (left:Int) (c:Rr),QkX bs n left (c.els s t v)=Qh0 s t v (QkX bs n left c)
 | 0,_,_=>rfl
 | n+1,left,c=>by
  rw[QbY,QbY];simp only[Qa7];have e:=λb=>Qve n (Qpx left (Y9 b)) (XC bs c (VX b)).2;simp only[<- e];rfl
theorem Qvf:∀ (l:List UInt8) (c:Rr),Qnm bs l (c.els s t v)=Qh0 s t v (Qnm bs l c)
 | [],_=>rfl
 | n::l,c=>by
  show(if((XC bs c n.toNat).1==0)=true then Qnm bs l ((XC bs c n.toNat).2.els s t v) else Qh0 s t v (XC bs c n.toNat))=Qh0 s t v (if((XC bs c n.toNat).1==0)=true then Qnm bs l (XC bs c n.toNat).2 else XC bs c n.toNat);rw[Qa7,Qvf l]
theorem Qw2 (c:Rr) (w:Int):QcQ (c.els s t v) w=Qh0 s t v (QcQ c w):=by
 unfold QcQ;rw[Qa7];rfl
theorem QBx (c:Rr):Qcr bs (c.els s t v)=Qh0 s t v (Qcr bs c):=by
 unfold Qcr;simp only[Qa7,<- Qw2];rfl
theorem QzG (c:Rr):Qnn bs (c.els s t v)=Qh0 s t v (Qnn bs c):=by
 unfold Qnn;rw[QBx,Qa7,<- Qvf];rfl
theorem QBy (c:Rr):QjW bs (c.els s t v)=Qh0 s t v (QjW bs c):=by
 unfold QjW Qo2;rw[show(c.els s t v).x.f.pre=c.x.f.pre from rfl,Qve,Qa7,<- QzG];rfl
theorem QBz (c:Rr):QhW bs (c.els s t v)=Qh0 s t v (QhW bs c):=by
 unfold QhW;simp only[Qa7];rfl
theorem QBA (c:Rr):Qpy bs (c.els s t v)=Qh0 s t v (Qpy bs c):=by
 unfold Qpy;simp only[Qa7,<- QBz];rfl
theorem QzH (c:Rr):Qe0 bs (c.els s t v)=Qh0 s t v (Qe0 bs c):=by
 unfold Qe0;rw[show(c.els s t v).x.f.vex=c.x.f.vex from rfl,QBA,QBy];cases c.x.f.vex<;>rfl
theorem QDI (c:Rr):opF bs (c.els s t v)=Qh0 s t v (opF bs c):=by
 unfold opF;simp only[Qa7];rfl
theorem QBB (c:Rr):Qcs bs (c.els s t v)=Qh0 s t v (Qcs bs c):=by
 unfold Qcs;simp only[Qa7];rfl
theorem QDJ (c:Rr):rdO bs (c.els s t v)=Qh0 s t v (rdO bs c):=by
 unfold rdO rdH;rw[QzH];show(bif (Qe0 bs c).1==0 then opF bs ((Qe0 bs c).2.els s t v) else Qh0 s t v (Qe0 bs c))=_;rw[QDI];cases(Qe0 bs c).1==0<;>rfl
theorem QDK (c:Rr):rdM bs (c.els s t v)=Qh0 s t v (rdM bs c):=by
 unfold rdM;rw[QDJ];show(bif (rdO bs c).1==0 then Qcs bs ((rdO bs c).2.els s t v) else Qh0 s t v (rdO bs c))=_;rw[QBB];cases(rdO bs c).1==0<;>rfl
end
def Qnq (bs:List Int) (f:Fm):Dr:=Qq1 bs ⟨f,.slice none 0 0,.slice none 0 0⟩ (.slice none 0 0)
theorem Qo5 (bs:List Int) (x:Lf) (bv:Value):Qq1 bs x bv=Qnq bs x.f:=by
 unfold Qnq Qq1;have e:rd0 ⟨x.f,.slice none 0 0,.slice none 0 0⟩ (.slice none 0 0)=(rd0 x bv).els (.slice none 0 0) (.slice none 0 0) (.slice none 0 0):=rfl;rw[e,QDK];rfl
theorem QDL (x:Lf) (bv:Value) (bs:List Int) (H:Qa) (hx:x.At H) (hb:QbC H bv bs) (hl:bs.length<=1000000) (hs:x.f.shapes.length=x.f.slots.length):Qh prog QaB [.agg x.cells.toArray,bv] H (Qg4 H (Qnq bs x.f)):=by
 rw[<- Qo5 bs x bv];exact Qr2 x bv bs H hx hb hl hs
theorem Qg4.post {H:Qa} {r:Dr} {u:Value} {H':Qa} (h:Qg4 H r u H'):Qe1 H r u H':=by
 obtain⟨hx,v,e,hv,hf⟩:=h;exact⟨hx,v,e,hv.ars,hf⟩
theorem QtG.by_ {H:Qa} {v:Value} {bs:List Int} (h:QtG H v bs):QbC H v bs:=by
 obtain⟨a,cap,rfl,h1⟩:=h;refine⟨a,cap,rfl,λhl=>?_⟩;obtain⟨b,o,c,e,ro,rfl,hg,hc⟩:=h1 hl;exact⟨b,o,e,ro,c,rfl,hg,hc⟩
def QIG (bs:List Int):List Fm->Int->Dr
 | [],err=>Qgi err
 | f::l,err=>if((Qnq bs f).e==0)=true then⟨(Qnq bs f).op,(Qnq bs f).l,(Qnq bs f).n,0⟩ else QIG bs l (if((Qnq bs f).e==9)=true then 9 else err)
theorem QJa (bs:List Int) {L:List Fm} {k:Nat} {f:Fm} (h:L[k]? = some f) (err:Int):QIG bs (L.drop k) err=if((Qnq bs f).e==0)=true then⟨(Qnq bs f).op,(Qnq bs f).l,(Qnq bs f).n,0⟩ else QIG bs (L.drop (k+1)) (if((Qnq bs f).e==9)=true then 9 else err):=by
 obtain⟨hk,rfl⟩:=Lk.1 h;rw[Nh hk];rfl
theorem QIZ {T:Qa->Prop} {L:List Fm} {bs:List Int} (hR:∀H,T H->Qh prog XL [] H λu H'=>QiS H H' u L) (hty:QsH Yc) (hL:∀f∈Qg9 bs true 0 L,f.shapes.length=f.slots.length) (va:Value) (hT:∀H H',H.Wf->T H->Ext H H'->T H') (H:Qa) (ht:T H) (hb:QtG H va bs) (hbl:bs.length<=100000):
  Qh prog QIz [va] H (Qg4 H (QIG bs (Qg9 bs true 0 L) 4)):=by
 refine QIT λhw=>?_;simp only[QIE,Qb,simprocAttr];have hx0:Ext H (H.push (.cells [.int .i64 0,.slice none 0 0] Qd false)):=(Ext.refl H).push _;have hg0:(H.push (.cells [.int .i64 0,.slice none 0 0] Qd false)).get H.next=some (.cells [.int .i64 0,.slice none 0 0] Qd false):=by rw[Qi,Lc rfl]
 have hw0:=hw.push (.cells [.int .i64 0,.slice none 0 0] Qd false);generalize H.push (.cells [.int .i64 0,.slice none 0 0] Qd false)=H0 at hx0 hg0 hw0;refine(Ql5 hR hty va bs H0 (hT _ _ hw ht hx0) (hb.ext hw hx0) hbl).thenW ?_;rintro v1 H1 hn1 hw1 ⟨hx1,ys,e1,ha1,hl1,hf1⟩;obtain⟨⟨aa,cap,rfl,hsl⟩,hxa⟩:=id ha1.fms;rw[<- e1]at hL;rw[<- e1];obtain⟨r,hr⟩:∃r,r=QIG bs (ys.map (·.f)) 4:=⟨_,rfl⟩;rw[<- hr];have hlt0:=hw0.lt hg0;simp only[Qb,simprocAttr];refine QE (λm A' H'=>∃ (k:Nat) (err:Int),k<=ys.length∧m=ys.length - k∧H'.Wf∧Ext H1 H'∧
   A' 0=va∧A' 2=.pointer (some ⟨H.next,0,none⟩)∧A' 5=.int .i64 err∧A' 12=.slice aa ys.length cap∧A' 13=.int .i64 ys.length∧A' 14=.int .i64 k∧r=QIG bs ((ys.map (·.f)).drop k) err) ys.length ?_ ?_
 ·refine⟨0,4,L7 _,by omega,hw1,.refl _,?_,?_,?_,?_,?_,?_,hr⟩
  all_goals simp only[Qg,simprocAttr]
  all_goals rfl
 ·rintro m A' H3 ⟨k,err,hk,rfl,hw3,hx3,r0,r2,r5,r12,r13,r14,hrk⟩;simp only[Qb,simprocAttr,r13,r14];have hg3:H3.get H.next=some (.cells [.int .i64 0,.slice none 0 0] Qd false):=by rw[(hx1.trans hx3).get _ hlt0];exact hg0
  refine Qf (λh3=>?_) (λh3=>?_)
  ·have h3:k<ys.length:=by have:=Lg h3;omega
   obtain⟨b1,e1',ro1,rfl,hg1⟩:=hsl (by omega);have hg3':H3.get b1=some (.cells (Q3 ys) e1' ro1):=by rw[hx3.get _ (hw1.lt hg1)];exact hg1
   have d1:(0:Int)<=k∧(k:Int)<ys.length:=by omega
   have d3:(k:Int).toNat=k:=by omega
   have d4:k * 10+10<=ys.length * 10:=by omega
   have ek:IntKind.i64.wrap ((k:Int)+1)=((k+1:Nat):Int):=by rw[w64 (by unfold I64;omega)];omega
   have hpk:=La h3;have hmk:(ys.map (·.f))[k]? = some ys[k].f:=by rw[LD,hpk];rfl
   have dd:=QdI ys k _ hpk;have nn:=W0 ys;have hym:ys[k]∈ys:=Nb h3;have wk:=(hxa _ hym).ext hw1 hx3;rw[QJa bs hmk]at hrk;generalize ys[k]=x at hpk dd hym wk hrk;have ak:=YI wk;simp only[Qb,simprocAttr,r0,r12,r14,d1,d3,d4,hg3',nn,dd,QG,Wu,ak];obtain⟨G1,hG1⟩:∃h,h=(H3.push (.cells [.int .i64 0,.slice none 0 0,.slice none 0 0,.int .i64 0,.int .i64 0,.int .i64 0,.int .i64 0,.int .i64 0,.bool false,.int .i64 0] Qc false)).set H3.next (.cells x.cells Qc false):=⟨_,rfl⟩;have hwG1:G1.Wf:=by rw[hG1];exact(hw3.push _).set (by rw[Qi,Lc rfl]) _
   have hxG1:Ext H3 G1:=by rw[hG1];exact((Ext.refl H3).push _).set (Lb _) _
   simp only[<- hG1];have hxa1:Ext H G1:=(hx0.trans hx1).trans (hx3.trans hxG1);refine(QDL x va bs G1 (wk.ext hw3 hxG1) (hb.ext hw hxa1).by_ (by omega) (hL x.f (Rw hym))).thenW ?_;rintro _ G2 hn4 hw4 ⟨hxG2,v',rfl,hv',hfr⟩;generalize Qnq bs x.f=d at *;obtain⟨va',vc',rfl,hv2⟩:=id hv';have hgG2:G2.get H.next=some (.cells [.int .i64 0,.slice none 0 0] Qd false):=by rw[(hxG1.trans hxG2).get _ (hw3.lt hg3)];exact hg3
   have hx5:=λC=>((Ext.refl G2).push (.cells [.int .i64 0,.slice none 0 0] Qd false)).set (i:=G2.next) (Lb _) C;have hltG:=hw4.lt hgG2;have hne:(H.next=G2.next)=False:=by simp;omega
   simp only[Qb,simprocAttr];cases z:d.e==0 with
   | true=>
    rw[Lc z]at hrk;simp only[Qb,simprocAttr,z,r2,hgG2,hne,QIB];have hxx:Ext H (((G2.push (.cells [.int .i64 0,.slice none 0 0] Qd false)).set G2.next (.cells [.int .i64 d.op,.slice va' d.l.length vc'] Qd false)).set H.next (.cells [.int .i64 d.op,.slice va' d.l.length vc'] Qd false)):=(hxa1.trans (hxG2.trans (hx5 _))).set (Lb _) _;have hGn:=hxa1.next;have hH1:=(hx0.trans hx1).next;have hH3:=hx3.next;have hG1n:=hxG1.next;have hl3:=hw3.lt hg3;refine .mk hxx.next ⟨hxx,_,by rw[hrk],?_,λa n c h=>?_⟩
    ·rw[hrk];refine⟨va',vc',rfl,λh=>?_⟩;obtain⟨b2,rfl,hg⟩:=hv2 h;have h1:=hfr _ _ _ rfl;have h2:=hw4.lt hg;simp only at h1;exact⟨b2,rfl,by rw[Qm,Le (by omega),Qm,Le (by omega),Qi,Le (by omega)];exact hg⟩
    ·have:=hfr a n c h;omega
   | false=>
    rw[Le (by rw[z];decide)]at hrk;cases h9:d.e==9 with
    | true=>
     rw[Lc h9]at hrk;simp only[Qb,simprocAttr,z,h9,r14,ek];refine⟨ys.length - (k+1),by omega,k+1,9,by omega,rfl,?_,hx3.trans ((hxG1.trans hxG2).trans (hx5 _)),?_,?_,?_,?_,?_,?_,hrk⟩
     ·exact(hw4.push _).set (by rw[Qi,Lc rfl]) _
     all_goals simp only[Qg,simprocAttr,r0,r2,r12,r13]
    | false=>
     rw[Le (by rw[h9];decide)]at hrk;simp only[Qb,simprocAttr,z,h9,r14,ek];refine⟨ys.length - (k+1),by omega,k+1,err,by omega,rfl,?_,hx3.trans ((hxG1.trans hxG2).trans (hx5 _)),?_,?_,?_,?_,?_,?_,hrk⟩
     ·exact(hw4.push _).set (by rw[Qi,Lc rfl]) _
     all_goals simp only[Qg,simprocAttr,r0,r2,r5,r12,r13]
  ·have h3:k=ys.length:=by have:=Ll h3;omega
   subst h3;rw[NR (by rw[Nn];exact Lb _)]at hrk;have hr2:r=Qgi err:=hrk;have hxx:=hx0.trans (hx1.trans hx3);simp only[Qb,simprocAttr,r2,r5,hg3,QIB];exact .mk (hxx.set (Lb _) _).next ⟨hxx.set (Lb _) _,_,by rw[hr2];rfl,by rw[hr2];exact⟨none,0,rfl,λh=>absurd h (NX 0)⟩,λa n c h=>by cases h⟩
end Go.Proofs.YtfofbicfabokbaaGreatDoor.code
