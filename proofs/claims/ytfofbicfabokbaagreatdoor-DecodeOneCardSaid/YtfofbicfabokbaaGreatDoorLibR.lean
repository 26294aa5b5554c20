/- field.Get: numbers in bytes. -/
import Derived.Test.YtfofbicfabokbaaGreatDoorC5Dec
import Derived.Test.YtfofbicfabokbaaGreatDoorLibA
import Derived.Test.YtfofbicfabokbaaGreatDoorLibI
import Derived.Test.YtfofbicfabokbaaGreatDoorC0Code
set_option linter.unusedVariables false
set_option linter.unusedSimpArgs false
set_option maxRecDepth 100000
set_option maxHeartbeats 2000000
set_option maxHeartbeats 4000000
noncomputable section
namespace Go.Proofs.YtfofbicfabokbaaGreatDoor.code
open Go.Ab
def QbY (H:Qa) (v:Value) (bs:List Int):Prop:=∃a cap,v=.slice a bs.length cap∧(0<bs.length→∃b o e ro cs,a=some ⟨b,o,none⟩∧H.get b=some (.cells cs e ro)∧∀j,j<bs.length→cs[o+j]? = some (.int .u8 (bs.getD j 0)))
theorem QbY.ext {H H':Qa} {v:Value} {bs:List Int} (hw:H.Wf) (he:Ext H H') (h:QbY H v bs):QbY H' v bs:=by
 obtain⟨a,cap,rfl,h1⟩:=h
 refine⟨a,cap,rfl,fun hn=>?_⟩
 obtain⟨b,o,e,ro,cs,rfl,hb,hc⟩:=h1 hn
 exact⟨b,o,e,ro,cs,rfl,by rw[he.get b (hw.lt hb)];exact hb,hc⟩
def Qim (n:Int):Bool:=(n==1)||(n==2)||(n==4)||(n==8)
theorem Qjn (n:Int) (H:Qa):Qf prog V1 [.int .i64 n] H fun u H'=>u=.bool (Qim n)∧H'=H:=by
 refine Qii fun hw=>?_
 simp(disch:=(first | omega | ((repeat (first | rw[Qa.next_push] | rw[Qa.next_set] | rw[Qa.next_up]));done) | ((repeat (first | rw[Qa.next_push] | rw[Qa.next_set] | rw[Qa.next_up]));omega))) only[QcE,sxA,sxB,mxD,mxB,splice,simprocAttr,QbC]
 repeat' (first
   | (refine Qr (fun h=>?_) (fun h=>?_)<;>(try simp only[Bool.not_eq_true',Bool.not_eq_false']at h)<;>simp(disch:=(first | omega | ((repeat (first | rw[Qa.next_push] | rw[Qa.next_set] | rw[Qa.next_up]));done) | ((repeat (first | rw[Qa.next_push] | rw[Qa.next_set] | rw[Qa.next_up]));omega))) only[sxA,sxB,mxD,mxB,splice,simprocAttr,QbC,h])
   | fail)
 all_goals refine .mk (Nat.le_refl _) ⟨?_,rfl⟩
 all_goals (simp only[Qim];simp_all)
def QcI (n:Int):Bool:=decide (1≤n)&&decide (n≤64)
theorem QgT (n:Int) (H:Qa):Qf prog KP [.int .i64 n] H fun u H'=>u=.bool (QcI n)∧H'=H:=by
 refine QfN fun hw=>?_
 simp(disch:=(first | omega | ((repeat (first | rw[Qa.next_push] | rw[Qa.next_set] | rw[Qa.next_up]));done) | ((repeat (first | rw[Qa.next_push] | rw[Qa.next_set] | rw[Qa.next_up]));omega))) only[Qax,sxA,sxB,mxD,mxB,splice,simprocAttr,VM]
 repeat' (first
   | (refine Qr (fun h=>?_) (fun h=>?_)<;>(try simp only[Bool.not_eq_true',Bool.not_eq_false']at h)<;>simp(disch:=(first | omega | ((repeat (first | rw[Qa.next_push] | rw[Qa.next_set] | rw[Qa.next_up]));done) | ((repeat (first | rw[Qa.next_push] | rw[Qa.next_set] | rw[Qa.next_up]));omega))) only[sxA,sxB,mxD,mxB,splice,simprocAttr,VM,h])
   | fail)
 all_goals refine .mk (Nat.le_refl _) ⟨?_,rfl⟩
 all_goals (simp only[QcI];simp_all<;>omega)
def Qin (n bits:Int):Int:=if QcI bits=false then 0 else(IntKind.i64.wrap (IntKind.u64.wrap (IntKind.u64.wrap n * 2 ^ (min (64 - bits).toNat 64)))).fdiv (2 ^ (min (64 - bits).toNat 64))
theorem QkQ (n bits:Int) (H:Qa):Qf prog Qa7 [.int .i64 n,.int .i64 bits] H fun u H'=>u=.int .i64 (Qin n bits)∧H'=H:=by
 refine Qjk fun hw=>?_
 simp only[Qdz,sxA,sxB,mxA,mxB,splice,simprocAttr]
 refine(QgT bits H).thenW ?_
 rintro _ H _ hw ⟨rfl,rfl⟩
 simp only[sxA,sxB,mxA,mxB,splice,simprocAttr]
 cases q:QcI bits with
 | false=>
  simp only[sxA,sxB,mxA,mxB,splice,simprocAttr,QcF]
  exact .mk (Nat.le_refl _) ⟨by rw[Qin,if_pos q],rfl⟩
 | true=>
  have hb:1≤bits∧bits≤64:=by simpa[QcI] using q
  have e:IntKind.i64.wrap (64 - bits)=64 - bits:=w64 (by unfold I64;omega)
  have h0:0≤64 - bits:=by omega
  have b1:IntKind.u64.bits=64:=rfl
  have b2:IntKind.i64.bits=64:=rfl
  simp only[sxA,sxB,mxA,mxB,splice,simprocAttr,e,h0,b1,b2,QcF]
  exact .mk (Nat.le_refl _) ⟨by rw[Qin,if_neg (by simp[q])],rfl⟩
def Qqx (bs:List Int) (p:Nat):Nat→Int
 | 0=>0
 | i+1=>IntKind.u64.wrap (BitVec.ofInt IntKind.u64.bits (Qqx bs p i) ||| BitVec.ofInt IntKind.u64.bits (IntKind.u64.wrap (IntKind.u64.wrap (bs.getD (p+i) 0) * 2 ^ (min (8 * i) 64)))).toNat
def Xw (bs:List Int) (p sz:Int) (sg:Bool):Int×Int:=
 if Qim sz=false then(0,2) else if(decide (p<0)||decide ((bs.length:Int)<p))=true then(0,5) else if(bs.length:Int) - p<sz then(0,9)
 else if sg=true then(Qin (IntKind.i64.wrap (Qqx bs p.toNat sz.toNat)) (8 * sz),0) else(IntKind.i64.wrap (Qqx bs p.toNat sz.toNat),0)
theorem VP (v:Value) (bs:List Int) (p sz:Int) (sg:Bool) (H:Qa) (hb:QbY H v bs) (hl:bs.length≤1000000) (hp:I64 p):Qf prog Ju [v,.int .i64 p,.int .i64 sz,.bool sg] H fun u H'=>u=.tuple #[.int .i64 (Xw bs p sz sg).1,.int .i64 (Xw bs p sz sg).2]∧H'=H:=by
 refine QkM fun hw=>?_
 obtain⟨a,cap,rfl,hb⟩:=hb
 simp only[QeY,sxA,sxB,mxA,mxB,splice,simprocAttr]
 refine(Qjn sz H).thenW ?_
 rintro _ H _ hw ⟨rfl,rfl⟩
 simp only[sxA,sxB,mxA,mxB,splice,simprocAttr]
 cases q:Qim sz with
 | false=>
  simp only[sxA,sxB,mxA,mxB,splice,simprocAttr,YA]
  exact .mk (Nat.le_refl _) ⟨by rw[Xw,if_pos q],rfl⟩
 | true=>
  have hs:sz=1∨sz=2∨sz=4∨sz=8:=by
   simp only[Qim,Bool.or_eq_true,beq_iff_eq]at q
   omega
  have h1:Xw bs p sz sg=if(decide (p<0)||decide ((bs.length:Int)<p))=true then(0,5) else if(bs.length:Int) - p<sz then(0,9)
    else if sg=true then(Qin (IntKind.i64.wrap (Qqx bs p.toNat sz.toNat)) (8 * sz),0) else(IntKind.i64.wrap (Qqx bs p.toNat sz.toNat),0):=by rw[Xw,if_neg (by simp[q])]
  rw[h1]
  clear h1
  simp only[QcB,sxA,sxB,mxA,mxB,splice,simprocAttr]
  by_cases h0:p<0
  ·simp only[h0,decide_true,sxA,sxB,mxA,mxB,splice,simprocAttr,YA]
   exact .mk (Nat.le_refl _) ⟨by simp,rfl⟩
  by_cases h1:(bs.length:Int)<p
  ·simp only[h0,h1,decide_true,decide_false,sxA,sxB,mxA,mxB,splice,simprocAttr,YA]
   exact .mk (Nat.le_refl _) ⟨by simp,rfl⟩
  have e1:IntKind.i64.wrap ((bs.length:Int) - p)=(bs.length:Int) - p:=w64 (by unfold I64;omega)
  simp only[h0,h1,decide_true,decide_false,QcA,sxA,sxB,mxA,mxB,splice,simprocAttr,e1]
  by_cases h2:(bs.length:Int) - p<sz
  ·simp only[h2,decide_true,sxA,sxB,mxA,mxB,splice,simprocAttr,YA]
   exact .mk (Nat.le_refl _) ⟨by simp,rfl⟩
  obtain⟨m,rfl⟩:∃m:Nat,p=m:=⟨p.toNat,by omega⟩
  obtain⟨z,rfl⟩:∃z:Nat,sz=z:=⟨sz.toNat,by omega⟩
  have b1:IntKind.u64.bits=64:=rfl
  simp only[h2,decide_false,Qcz,sxA,sxB,mxA,mxB,splice,simprocAttr,Bool.or_self,Bool.false_eq_true,Int.toNat_natCast]
  refine QX (fun k A' H'=>∃i:Nat,i≤z∧k=z - i∧H'=H∧A' 0=.slice a bs.length cap∧A' 1=.int .i64 m∧A' 2=.int .i64 z∧A' 3=.bool sg∧A' 10=.int .u64 (Qqx bs m i)∧A' 29=.int .i64 z∧A' 30=.int .i64 i) z ?_ ?_
  ·refine⟨0,Nat.zero_le _,by omega,rfl,?_,?_,?_,?_,?_,?_,?_⟩
   all_goals simp only[uxA,uxB,simprocAttr]
   all_goals rfl
  ·rintro k A' H' ⟨i,hi,rfl,rfl,r0,r1,r2,r3,r10,r29,r30⟩
   simp only[Qcy,sxA,sxB,mxA,mxB,splice,simprocAttr,r29,r30]
   refine Qg (fun h3=>?_) (fun h3=>?_)
   ·have h3:i<z:=by have:=of_decide_eq_true h3;omega
    obtain⟨b,o,e,ro,cs,rfl,hg,hc⟩:=hb (by omega)
    have d1:IntKind.i64.wrap ((m:Int)+(i:Int))=((m+i:Nat):Int):=by rw[w64 (by unfold I64;omega)];omega
    have d2:(0:Int)≤((m+i:Nat):Int)∧((m+i:Nat):Int)<bs.length:=by omega
    have d3:(((m+i:Nat):Int)).toNat=m+i:=by omega
    have d4:IntKind.i64.wrap (8 * (i:Int))=((8 * i:Nat):Int):=by rw[w64 (by unfold I64;omega)];omega
    have d5:(0:Int)≤((8 * i:Nat):Int):=by omega
    have d6:(((8 * i:Nat):Int)).toNat=8 * i:=by omega
    have ei:IntKind.i64.wrap ((i:Int)+1)=((i+1:Nat):Int):=by rw[w64 (by unfold I64;omega)];omega
    have g1:=hc (m+i) (by omega)
    simp only[Qcx,sxA,sxB,mxA,mxB,splice,simprocAttr,r0,r1,r10,r30,d1,d2,d3,d4,d5,d6,hg,g1,ei,b1]
    refine⟨z - (i+1),by omega,i+1,by omega,rfl,rfl,?_,?_,?_,?_,?_,?_,?_⟩
    all_goals simp only[uxA,uxB,simprocAttr,r0,r1,r2,r3,r29]
    rfl
   ·have h3:i=z:=by have:=of_decide_eq_false h3;omega
    subst h3
    simp only[Qcw,sxA,sxB,mxA,mxB,splice,simprocAttr,r3,r10]
    cases sg with
    | false=>
     simp only[sxA,sxB,mxA,mxB,splice,simprocAttr,r10,YA]
     exact .mk (Nat.le_refl _) ⟨by simp,rfl⟩
    | true=>
     have d4:IntKind.i64.wrap (8 * (i:Int))=8 * (i:Int):=w64 (by unfold I64;omega)
     simp only[sxA,sxB,mxA,mxB,splice,simprocAttr,r2,r10,d4]
     refine(QkQ _ _ _).thenW ?_
     rintro _ H _ hw ⟨rfl,rfl⟩
     simp only[sxA,sxB,mxA,mxB,splice,simprocAttr,YA]
     exact .mk (Nat.le_refl _) ⟨by simp,rfl⟩
def Yl (a b:Int):Int:=IntKind.i64.wrap (BitVec.ofInt IntKind.i64.bits a &&& BitVec.ofInt IntKind.i64.bits b).toNat
def K3 (a:Int) (n:Nat):Int:=a.fdiv (2 ^ (min n 64))
theorem Qt5 (a:Int) (m:Nat) (hm:m<1000):0≤Yl a m∧Yl a m≤m:=by
 have b2:IntKind.i64.bits=64:=rfl
 unfold Yl
 rw[b2]
 have h1:(BitVec.ofInt 64 a &&& BitVec.ofInt 64 (m:Int)).toNat≤m:=by
  rw[BitVec.toNat_and]
  refine Nat.le_trans Nat.and_le_right ?_
  rw[BitVec.toNat_ofInt]
  omega
 rw[w64 (by unfold I64;omega)]
 omega
def W4 (n:Int):Int×Int×Int:=(Yl (K3 n 6) 3,Yl (K3 n 3) 7,Yl n 7)
theorem QdM (n:Int) (H:Qa):Qf prog Kq [.int .i64 n] H fun u H'=>u=.tuple #[.int .i64 (W4 n).1,.int .i64 (W4 n).2.1,.int .i64 (W4 n).2.2]∧H'=H:=by
 refine Qig fun hw=>?_
 have h6:(0:Int)≤6:=by omega
 have h3:(0:Int)≤3:=by omega
 simp only[QcC,sxA,sxB,mxA,mxB,splice,simprocAttr,h6,h3,QgR]
 exact .mk (Nat.le_refl _) ⟨rfl,rfl⟩
def Jp (md:Int) (m:Mm):Int:=if(md==1)=true then 1 else if(md==2||!(m.b.c==5))=true then 4 else 0
theorem Qjt (md:Int) (m:Mm) (H:Qa):Qf prog Kr [.int .i64 md,.agg m.cells.toArray] H fun u H'=>u=.int .i64 (Jp md m)∧∃k,H'=H.up k:=by
 refine Qih fun hw=>?_
 have hs:Jp md m=if(md==1)=true then 1 else if(md==2||!(m.b.c==5))=true then 4 else 0:=rfl
 rw[hs]
 clear hs
 obtain⟨⟨bc,bn⟩,⟨ic,nn⟩,sc,d,sz⟩:=m
 simp(disch:=(first | omega | ((repeat (first | rw[Qa.next_push] | rw[Qa.next_set] | rw[Qa.next_up]));done) | ((repeat (first | rw[Qa.next_push] | rw[Qa.next_set] | rw[Qa.next_up]));omega))) only[Mm.cells,QcD,sxA,sxB,mxD,mxB,splice,simprocAttr,KW]
 repeat' (first
   | (refine Qr (fun h=>?_) (fun h=>?_)<;>(try simp only[Bool.not_eq_true',Bool.not_eq_false']at h)<;>simp(disch:=(first | omega | ((repeat (first | rw[Qa.next_push] | rw[Qa.next_set] | rw[Qa.next_up]));done) | ((repeat (first | rw[Qa.next_push] | rw[Qa.next_set] | rw[Qa.next_up]));omega))) only[sxA,sxB,mxD,mxB,splice,simprocAttr,KW,h])
   | (refine Qg (fun h=>?_) (fun h=>?_)<;>(try simp only[Bool.not_eq_true',Bool.not_eq_false']at h)<;>simp(disch:=(first | omega | ((repeat (first | rw[Qa.next_push] | rw[Qa.next_set] | rw[Qa.next_up]));done) | ((repeat (first | rw[Qa.next_push] | rw[Qa.next_set] | rw[Qa.next_up]));omega))) only[sxA,sxB,mxD,mxB,splice,simprocAttr,KW,h])
   | fail)
 all_goals refine .ext hw ((Ext.refl H).push _) ⟨?_,_,rfl⟩
 all_goals simp_all
def pl8 (a b:Int):Int:=IntKind.i64.wrap (IntKind.i64.wrap (8 * a)+b)
def Qr9 (hi ix x:Int):Mm×Int:=if(!(ix==4)||x==1)=true then({WK with i:=⟨5,pl8 x ix⟩,sc:=IntKind.i64.wrap (1 * 2 ^ (min hi.toNat 64))},0) else if(!(hi==0))=true then(WK,4) else(WK,0)
def QvX (m:Mm) (ba md bb:Int):Mm×Int:=if(!(ba==5)||!(md==0))=true then({m with b:=⟨5,pl8 bb ba⟩},0) else if(bb==1)=true then(WK,4) else(m,0)
def Qju (sib md x bb:Int):Mm×Int:=if((Qr9 (W4 sib).1 (W4 sib).2.1 x).2==0)=true then QvX (Qr9 (W4 sib).1 (W4 sib).2.1 x).1 (W4 sib).2.2 md bb else(WK,4)
theorem QfQ (sib md x bb:Int) (H:Qa):Qf prog Kb [.int .i64 sib,.int .i64 md,.int .i64 x,.int .i64 bb] H fun u H'=>u=.tuple #[.agg (Qju sib md x bb).1.cells.toArray,.int .i64 (Qju sib md x bb).2]∧∃k,H'=H.up k:=by
 refine QeZ fun hw=>?_
 have q:=QdM sib
 have h0:0≤(W4 sib).1:=(Qt5 _ 3 (by omega)).1
 have hs:Qju sib md x bb=if((Qr9 (W4 sib).1 (W4 sib).2.1 x).2==0)=true then QvX (Qr9 (W4 sib).1 (W4 sib).2.1 x).1 (W4 sib).2.2 md bb else(WK,4):=rfl
 rw[hs]
 clear hs
 generalize W4 sib=s at *
 obtain⟨hi,ix,ba⟩:=s
 simp only at h0 q ⊢
 have b2:IntKind.i64.bits=64:=rfl
 simp(disch:=(first | omega | ((repeat (first | rw[Qa.next_push] | rw[Qa.next_set] | rw[Qa.next_up]));done) | ((repeat (first | rw[Qa.next_push] | rw[Qa.next_set] | rw[Qa.next_up]));omega))) only[VK,sxA,sxB,mxD,mxB,splice,simprocAttr,Yf]
 refine(q _).thenW ?_
 rintro _ _ hn hw2 ⟨rfl,rfl⟩
 simp(disch:=(first | omega | ((repeat (first | rw[Qa.next_push] | rw[Qa.next_set] | rw[Qa.next_up]));done) | ((repeat (first | rw[Qa.next_push] | rw[Qa.next_set] | rw[Qa.next_up]));omega))) only[Gl,Gm,Gn,Gp,sxA,sxB,mxD,mxB,splice,simprocAttr,Yf,h0,b2]
 repeat' (first
   | (refine Qr (fun h=>?_) (fun h=>?_)<;>(try simp only[Bool.not_eq_true',Bool.not_eq_false']at h)<;>simp(disch:=(first | omega | ((repeat (first | rw[Qa.next_push] | rw[Qa.next_set] | rw[Qa.next_up]));done) | ((repeat (first | rw[Qa.next_push] | rw[Qa.next_set] | rw[Qa.next_up]));omega))) only[sxA,sxB,mxD,mxB,splice,simprocAttr,Yf,h,h0,b2])
   | (refine Qg (fun h=>?_) (fun h=>?_)<;>(try simp only[Bool.not_eq_true',Bool.not_eq_false']at h)<;>simp(disch:=(first | omega | ((repeat (first | rw[Qa.next_push] | rw[Qa.next_set] | rw[Qa.next_up]));done) | ((repeat (first | rw[Qa.next_push] | rw[Qa.next_set] | rw[Qa.next_up]));omega))) only[sxA,sxB,mxD,mxB,splice,simprocAttr,Yf,h,h0,b2])
   | fail)
 all_goals refine .ext hw ?_ ⟨?_,_,rfl⟩
 all_goals try (repeat' (first | exact Ext.refl _ | refine Ext.push ?_ _ | refine Ext.up ?_ (by simp only[Qa.next_push,Qa.next_set,Qa.next_up];omega) | refine Ext.set ?_ (by omega) _))
 all_goals (simp_all [Qr9,QvX,Mm.cells,WK,pl8])
structure Sn where
 fld:Int
 reg:Int
 m:Mm
 ends:Int
def Sn.cells (s:Sn):List Value:=[.int .i64 s.fld,.int .i64 s.reg,.int .i64 s.m.b.c,.int .i64 s.m.b.n,.int .i64 s.m.i.c,.int .i64 s.m.i.n,.int .i64 s.m.sc,.int .i64 s.m.d,.int .i64 s.m.sz,.int .i64 s.ends]
def Ze:Sn:=⟨0,0,WK,0⟩
def Qip (mid p:Int) (m:Mm):Sn×Int:=if((GB m).2==0)=true then(⟨mid,-1,(GB m).1,p⟩,0) else(Ze,4)
def V9 (bs:List Int) (p md mid:Int) (m:Mm):Sn×Int:=
 if(Jp md m==0)=true then Qip mid p m
 else if((Xw bs p (Jp md m) true).2==0)=true then Qip mid (IntKind.i64.wrap (p+Jp md m)) {m with d:=(Xw bs p (Jp md m) true).1} else(Ze,(Xw bs p (Jp md m) true).2)
def Qmq (bs:List Int) (p md mid x bb:Int):Sn×Int:=
 if((Xw bs p 1 false).2==0)=true then
  (if((Qju (Xw bs p 1 false).1 md x bb).2==0)=true then V9 bs (IntKind.i64.wrap (p+1)) md mid (Qju (Xw bs p 1 false).1 md x bb).1 else(Ze,(Qju (Xw bs p 1 false).1 md x bb).2))
 else(Ze,(Xw bs p 1 false).2)
def Qiq (bs:List Int) (p md mid rm x bb:Int):Sn×Int:=
 if(x==1&&(md==3||!(rm==4)))=true then(Ze,4)
 else if(md==3)=true then(⟨mid,pl8 bb rm,WK,p⟩,0)
 else if(rm==4)=true then Qmq bs p md mid x bb
 else if(md==0&&rm==5)=true then(if(bb==1)=true then(Ze,4) else V9 bs p md mid {WK with b:=⟨8,0⟩})
 else V9 bs p md mid {WK with b:=⟨5,pl8 bb rm⟩}
def rdF (bs:List Int) (p x bb:Int):Sn×Int:=
 if(decide (p<0)||decide ((bs.length:Int)<p)||decide (x<0)||decide (1<x)||decide (bb<0)||decide (1<bb))=true then(Ze,5)
 else if((Xw bs p 1 false).2==0)=true then Qiq bs (IntKind.i64.wrap (p+1)) (W4 (Xw bs p 1 false).1).1 (W4 (Xw bs p 1 false).1).2.1 (W4 (Xw bs p 1 false).1).2.2 x bb
 else(Ze,(Xw bs p 1 false).2)
theorem Ym (a b:PC) (ks:Kp) (k:Env→Qa→Prop):Qm prog (.seq a b) ks k=Qm prog a ks (Qm prog b ks k):=by funext A H;exact GE a b ks k A H
section
variable (H:Qa) (r:Sn×Int)
abbrev Qol:Value→Qa→Prop:=fun u H'=>u=.tuple #[.agg r.1.cells.toArray,.int .i64 r.2]∧∃k,H'=H.up k
abbrev KRd:Env→Qa→Prop:=Rt prog QkL H (Qol H r)
structure RdF (M:Nat) (m:Mm) (mid p:Int) (A:Env) (H':Qa):Prop where
 hx:Ext H H'
 r1:A 1=.int .i64 p
 r8:A 8=.pointer (some ⟨H.next,0,none⟩)
 r13:A 13=.int .i64 mid
 r15:A 15=.pointer (some ⟨M,0,none⟩)
 gS:H'.get H.next=some (.cells [.int .i64 0,.int .i64 0,.int .i64 0,.int .i64 0,.int .i64 0,.int .i64 0,.int .i64 0,.int .i64 0,.int .i64 0,.int .i64 0] XK false)
 gM:H'.get M=some (.cells m.cells Qv false)
 ne:¬H.next=M
 lo:H.next≤M
 hi:M<H'.next
theorem QvY (hw:H.Wf) (M:Nat) (m:Mm) (mid p:Int) (A:Env) (H':Qa) (e:Nat→Env→Qa→Prop) (k:Env→Qa→Prop) (f:RdF H M m mid p A H') (hr:r=Qip mid p m):Qm prog Yr ⟨KRd H r,e⟩ k A H':=by
 obtain⟨hx,r1,r8,r13,r15,gS,gM,ne,lo,hi⟩:=f
 have q:=Qgz m
 have hr':r=if((GB m).2==0)=true then(⟨mid,-1,(GB m).1,p⟩,0) else(Ze,4):=hr
 rw[hr']
 clear hr hr'
 generalize GB m=c at *
 obtain⟨c,ce⟩:=c
 have hxn:=hx.next
 have ne2:¬M=H.next:=fun h=>ne h.symm
 obtain⟨⟨bc,bn⟩,⟨ic,nn⟩,sc,d,sz⟩:=c
 obtain⟨⟨mbc,mbn⟩,⟨mic,mnn⟩,msc,md',msz⟩:=m
 simp only[Mm.cells]at q gM
 simp only[Yr,sxA,sxB,mxA,mxB,splice,simprocAttr,r1,r8,r13,r15,gS,gM]
 refine(q _).thenW ?_
 rintro _ _ hn hw2 ⟨rfl,k2,rfl⟩
 simp only[Qa.next_up]at hn
 have hx2:=hx.up hn
 simp only[sxA,sxB,mxA,mxB,splice,simprocAttr,r15,gS,gM,Mm.cells,ne,ne2]
 cases q1:ce==0
 all_goals simp only[sxA,sxB,mxA,mxB,splice,simprocAttr,r1,r8,r13,r15,gS,gM,ne,ne2,Wd]
 ·refine .ext hw ((hx2.set lo _).set (Nat.le_refl _) _) ⟨?_,_,rfl⟩
  simp[Sn.cells,Ze,WK]
 ·refine .ext hw ((hx2.set lo _).set (Nat.le_refl _) _) ⟨?_,_,rfl⟩
  simp[Sn.cells]
theorem Qpo (hw:H.Wf) (v:Value) (bs:List Int) (hb:QbY H v bs) (hl:bs.length≤1000000) (M:Nat) (m:Mm) (md mid p:Int) (hp:I64 p) (A:Env) (H':Qa) (e:Nat→Env→Qa→Prop) (k:Env→Qa→Prop) (r0:A 0=v) (r12:A 12=.int .i64 md) (f:RdF H M m mid p A H') (hr:r=V9 bs p md mid m):Qm prog Ys ⟨KRd H r,e⟩ k A H':=by
 have fend:=fun m p A H'=>QvY H r hw M m mid p A H' e k
 obtain⟨hx,r1,r8,r13,r15,gS,gM,ne,lo,hi⟩:=f
 have qw:=Qjt md m
 have qg:=fun H' (hx:Ext H H') sz=>VP v bs p sz true H' (hb.ext hw hx) hl hp
 have hr':r=if(Jp md m==0)=true then Qip mid p m
  else if((Xw bs p (Jp md m) true).2==0)=true then Qip mid (IntKind.i64.wrap (p+Jp md m)) {m with d:=(Xw bs p (Jp md m) true).1} else(Ze,(Xw bs p (Jp md m) true).2):=hr
 clear hr
 generalize Jp md m=wd at *
 have ne2:¬M=H.next:=fun h=>ne h.symm
 obtain⟨⟨mbc,mbn⟩,⟨mic,mnn⟩,msc,md',msz⟩:=m
 simp only[Mm.cells]at qw gM
 have e1:Ys=.seq (.seq (.ops [⟨some 129,.mv (t 12),none,false⟩,⟨some 130,.ld true 7 (t 15),none,false⟩,⟨some 131,.call Kr [(t 129),(t 130)],none,false⟩,⟨some 18,.mv (t 131),none,false⟩]) (.seq (.ops [⟨some 132,.mv (t 18),none,false⟩,⟨some 133,.bin .neq (t 132) (.const (.int .i64 0)),none,false⟩]) (.cond (t 133) KQ .skip))) Yr:=rfl
 rw[e1,GE]
 generalize hT:Qm prog Yr ⟨KRd H r,e⟩ k=T
 simp only[sxA,sxB,mxA,mxB,splice,simprocAttr,r12,r15,gM]
 refine(qw _).thenW ?_
 rintro _ _ hn hw2 ⟨rfl,k2,rfl⟩
 simp only[Qa.next_up]at hn
 have hx2:=hx.up hn
 have hi2:M<(H'.up k2).next:=by simp only[Qa.next_up];omega
 simp only[sxA,sxB,mxA,mxB,splice,simprocAttr]
 cases q1:wd==0 with
 | true=>
  rw[if_pos q1]at hr'
  simp only[sxA,sxB,mxA,mxB,splice,simprocAttr]
  rw[← hT]
  refine fend ⟨⟨mbc,mbn⟩,⟨mic,mnn⟩,msc,md',msz⟩ p _ _ ⟨hx2,by simp only[uxA,uxB,simprocAttr,r1],by simp only[uxA,uxB,simprocAttr,r8],by simp only[uxA,uxB,simprocAttr,r13],by simp only[uxA,uxB,simprocAttr,r15],by rw[Qa.get_up];exact gS,by rw[Qa.get_up];exact gM,ne,lo,hi2⟩ hr'
 | false=>
  rw[if_neg (by rw[q1];decide)]at hr'
  simp only[KQ,sxA,sxB,mxA,mxB,splice,simprocAttr,r0,r1]
  refine(qg _ hx2 wd).thenW ?_
  rintro _ H3 hn3 hw3 ⟨rfl,rfl⟩
  generalize Xw bs p wd true=g at *
  obtain⟨g,ge⟩:=g
  simp only at hr'
  have gM3:(H'.up k2).get M=some (.cells [.int .i64 mbc,.int .i64 mbn,.int .i64 mic,.int .i64 mnn,.int .i64 msc,.int .i64 md',.int .i64 msz] Qv false):=by rw[Qa.get_up];exact gM
  have gS3:(H'.up k2).get H.next=_:=(Qa.get_up _ _ _).trans gS
  generalize H'.up k2=H3 at *
  simp only[sxA,sxB,mxA,mxB,splice,simprocAttr,r15,gM3]
  cases q2:ge==0 with
  | true=>
   rw[if_pos q2]at hr'
   simp only[sxA,sxB,mxA,mxB,splice,simprocAttr,r1]
   rw[← hT]
   refine fend ⟨⟨mbc,mbn⟩,⟨mic,mnn⟩,msc,g,msz⟩ _ _ _ ⟨hx2.set lo _,by simp only[uxA,uxB,simprocAttr],by simp only[uxA,uxB,simprocAttr,r8],by simp only[uxA,uxB,simprocAttr,r13],by simp only[uxA,uxB,simprocAttr,r15],by rw[Qa.get_set,if_neg ne];exact gS3,by rw[Qa.get_set,if_pos rfl];rfl,ne,lo,hi2⟩ hr'
  | false=>
   rw[if_neg (by rw[q2];decide)]at hr'
   simp only[sxA,sxB,mxA,mxB,splice,simprocAttr,r8,gS3,ne,Wd]
   refine .ext hw ((hx2.set lo _).set (Nat.le_refl _) _) ⟨?_,_,rfl⟩
   rw[hr']
   simp[Sn.cells,Ze,WK]
theorem Qir (n:Int):I64 (IntKind.i64.wrap n):=by
 rw[IntKind.wrap_i64];unfold I64;omega
abbrev z10:List Value:=[.int .i64 0,.int .i64 0,.int .i64 0,.int .i64 0,.int .i64 0,.int .i64 0,.int .i64 0,.int .i64 0,.int .i64 0,.int .i64 0]
theorem QfR (hw:H.Wf) {H':Qa} (hx:Ext H H') (b:Blk) {x:Int} (hr:r=(Ze,x)):Ret H (Qol H r) (.tuple #[.agg #[.int .i64 0,.int .i64 0,.int .i64 0,.int .i64 0,.int .i64 0,.int .i64 0,.int .i64 0,.int .i64 0,.int .i64 0,.int .i64 0],.int .i64 x]) (H'.set H.next b):=by
 refine .ext hw (hx.set (Nat.le_refl _) _) ⟨?_,_,rfl⟩
 rw[hr]
 simp[Sn.cells,Ze,WK]
theorem QvZ (hw:H.Wf) (v:Value) (bs:List Int) (hb:QbY H v bs) (hl:bs.length≤1000000) (M:Nat) (md mid p x bb:Int) (hp:I64 p) (A:Env) (H':Qa) (e:Nat→Env→Qa→Prop) (k:Env→Qa→Prop)
  (r0:A 0=v) (r2:A 2=.int .i64 x) (r3:A 3=.int .i64 bb) (r12:A 12=.int .i64 md) (f:RdF H M WK mid p A H') (hr:r=Qmq bs p md mid x bb)
  (hT:∀ (m:Mm) (p:Int) (A2:Env) (H2:Qa),I64 p→A2 0=v→A2 12=.int .i64 md→RdF H M m mid p A2 H2→r=V9 bs p md mid m→k A2 H2):Qm prog KR ⟨KRd H r,e⟩ k A H':=by
 obtain⟨hx,r1,r8,r13,r15,gS,gM,ne,lo,hi⟩:=f
 have qg:=VP v bs p 1 false H' (hb.ext hw hx) hl hp
 have hr':r=if((Xw bs p 1 false).2==0)=true then
   (if((Qju (Xw bs p 1 false).1 md x bb).2==0)=true then V9 bs (IntKind.i64.wrap (p+1)) md mid (Qju (Xw bs p 1 false).1 md x bb).1 else(Ze,(Qju (Xw bs p 1 false).1 md x bb).2))
  else(Ze,(Xw bs p 1 false).2):=hr
 clear hr
 simp only[KR,sxA,sxB,mxA,mxB,splice,simprocAttr,r0,r1]
 refine qg.thenW ?_
 rintro _ H' hn hw2 ⟨rfl,rfl⟩
 generalize Xw bs p 1 false=g at *
 obtain⟨g,ge⟩:=g
 simp only at hr'
 simp only[sxA,sxB,mxA,mxB,splice,simprocAttr]
 cases q1:ge==0 with
 | false=>
  rw[if_neg (by rw[q1];decide)]at hr'
  simp only[sxA,sxB,mxA,mxB,splice,simprocAttr,r8,gS,Wd]
  exact QfR H r hw hx _ hr'
 | true=>
  rw[if_pos q1]at hr'
  have qs:=fun H=>QfQ g md x bb H
  generalize Qju g md x bb=s at *
  obtain⟨s,se⟩:=s
  simp only at hr'
  obtain⟨⟨sbc,sbn⟩,⟨sic,snn⟩,ssc,sd,ssz⟩:=s
  simp only[Mm.cells,WK]at qs gM
  simp only[Qbu,sxA,sxB,mxA,mxB,splice,simprocAttr,r1,r2,r3,r12]
  refine(qs _).thenW ?_
  rintro _ _ hn3 hw3 ⟨rfl,k3,rfl⟩
  simp only[Qa.next_up]at hn3
  have hx3:=hx.up hn3
  have gM3:(H'.up k3).get M=_:=(Qa.get_up _ _ _).trans gM
  have gS3:(H'.up k3).get H.next=_:=(Qa.get_up _ _ _).trans gS
  have hi3:M<(H'.up k3).next:=by simp only[Qa.next_up];omega
  generalize H'.up k3=H3 at *
  simp only[sxA,sxB,mxA,mxB,splice,simprocAttr,r15,gM3]
  cases q2:se==0 with
  | false=>
   rw[if_neg (by rw[q2];decide)]at hr'
   simp only[sxA,sxB,mxA,mxB,splice,simprocAttr,r8,gS3,ne,Wd]
   exact QfR H r hw (hx3.set lo _) _ hr'
  | true=>
   rw[if_pos q2]at hr'
   simp only[sxA,sxB,mxA,mxB,splice,simprocAttr]
   refine hT ⟨⟨sbc,sbn⟩,⟨sic,snn⟩,ssc,sd,ssz⟩ _ _ _ (Qir _) (by simp only[uxA,uxB,simprocAttr,r0]) (by simp only[uxA,uxB,simprocAttr,r12]) ⟨hx3.set lo _,by simp only[uxA,uxB,simprocAttr],by simp only[uxA,uxB,simprocAttr,r8],by simp only[uxA,uxB,simprocAttr,r13],by simp only[uxA,uxB,simprocAttr,r15],by rw[Qa.get_set,if_neg ne];exact gS3,by rw[Qa.get_set,if_pos rfl];rfl,ne,lo,hi3⟩ hr'
theorem Qt6 (hw:H.Wf) (v:Value) (bs:List Int) (hb:QbY H v bs) (hl:bs.length≤1000000) (h p x bb:Int) (hp:I64 p) (A:Env) (H':Qa) (e:Nat→Env→Qa→Prop) (k:Env→Qa→Prop)
  (r0:A 0=v) (r1:A 1=.int .i64 p) (r2:A 2=.int .i64 x) (r3:A 3=.int .i64 bb) (r8:A 8=.pointer (some ⟨H.next,0,none⟩)) (r10:A 10=.int .i64 h) (hx:Ext H H') (hn:H'.next=H.next+1) (gS:H'.get H.next=some (.cells z10 XK false))
  (hr:r=Qiq bs (IntKind.i64.wrap (p+1)) (W4 h).1 (W4 h).2.1 (W4 h).2.2 x bb):Qm prog Kc ⟨KRd H r,e⟩ k A H':=by
 have q:=QdM h H'
 generalize W4 h=s at *
 obtain⟨md,mid,rm⟩:=s
 simp only at q hr
 have hr':r=if(x==1&&(md==3||!(rm==4)))=true then(Ze,4)
  else if(md==3)=true then(⟨mid,pl8 bb rm,WK,IntKind.i64.wrap (p+1)⟩,0)
  else if(rm==4)=true then Qmq bs (IntKind.i64.wrap (p+1)) md mid x bb
  else if(md==0&&rm==5)=true then(if(bb==1)=true then(Ze,4) else V9 bs (IntKind.i64.wrap (p+1)) md mid {WK with b:=⟨8,0⟩})
  else V9 bs (IntKind.i64.wrap (p+1)) md mid {WK with b:=⟨5,pl8 bb rm⟩}:=hr
 clear hr
 have hp1:=Qir (p+1)
 generalize hpe:IntKind.i64.wrap (p+1)=p1 at *
 have ftail:=fun m A2 H2 (ha0:A2 0=v) ha12 hf hr=>Qpo H r hw v bs hb hl (H.next+1) m md mid p1 hp1 A2 H2 e k ha0 ha12 hf hr
 have fsib:=fun A2 H2 e2 k2 (ha0:A2 0=v) ha2 ha3 ha12 hf hr hT=>QvZ H r hw v bs hb hl (H.next+1) md mid p1 x bb hp1 A2 H2 e2 k2 ha0 ha2 ha3 ha12 hf hr hT
 have ftail2:=fun m p A2 H2 hp (ha0:A2 0=v) ha12 hf hr=>Qpo H r hw v bs hb hl (H.next+1) m md mid p hp A2 H2 e k ha0 ha12 hf hr
 have e9:KU=.seq (.ops [⟨some 73,.build [.int .i64 0,.int .i64 0,.int .i64 0,.int .i64 0,.int .i64 0,.int .i64 0,.int .i64 0] [],none,false⟩,⟨some 15,.alloc Qv [.int .i64 0,.int .i64 0,.int .i64 0,.int .i64 0,.int .i64 0,.int .i64 0,.int .i64 0],none,false⟩,⟨none,.st 7 (t 15) (t 73),none,false⟩]) (.seq (.block 0 (.seq (.ops [⟨some 81,.mv (t 12),none,false⟩,⟨some 82,.bin .eql (t 81) (.const (.int .i64 3)),none,false⟩,⟨some 80,.mv (t 82),none,false⟩]) (.cond (t 80) (.seq (.ops [⟨some 83,.mv (t 13),none,false⟩,⟨some 84,.mv (t 3),none,false⟩,⟨some 85,.bin .mul (.const (.int .i64 8)) (t 84),none,false⟩,⟨some 86,.mv (t 14),none,false⟩,⟨some 87,.bin .add (t 85) (t 86),none,false⟩,⟨some 88,.mv (t 1),none,false⟩,⟨some 89,.build [.int .i64 0,.int .i64 0,.int .i64 0,.int .i64 0,.int .i64 0,.int .i64 0,.int .i64 0,.int .i64 0,.int .i64 0,.int .i64 0] [(0,1,(t 83)),(1,1,(t 87)),(9,1,(t 88))],none,false⟩,⟨none,.st 10 (t 8) (t 89),none,false⟩,⟨some 9,.mv (.const (.int .i64 0)),none,false⟩]) .ret) KS))) Ys):=rfl
 have ne:¬H.next=H.next+1:=by omega
 have ne2:¬H.next+1=H.next:=by omega
 simp only[Kc,sxA,sxB,mxA,mxB,splice,simprocAttr,r1,r10,hpe]
 refine q.thenW ?_
 rintro _ H' _ hw' ⟨rfl,rfl⟩
 simp only[sxA,sxB,mxA,mxB,splice,simprocAttr,r2]
 have go:∀A2:Env,A2 0=v→A2 1=.int .i64 p1→A2 2=.int .i64 x→A2 3=.int .i64 bb→A2 8=.pointer (some ⟨H.next,0,none⟩)→A2 12=.int .i64 md→A2 13=.int .i64 mid→A2 14=.int .i64 rm→(x==1&&(md==3||!(rm==4)))=false→Qm prog KU ⟨KRd H r,e⟩ k A2 H':=by
  intro A2 a0 a1 a2 a3 a8 a12 a13 a14 hc
  rw[if_neg (by rw[hc];decide)]at hr'
  rw[e9,Ym,Ym]
  generalize hT:Qm prog Ys ⟨KRd H r,e⟩ k=T
  simp only[sxA,sxB,mxA,mxB,splice,simprocAttr,hn,a12]
  have hx2:Ext H ((H'.push (.cells [.int .i64 0,.int .i64 0,.int .i64 0,.int .i64 0,.int .i64 0,.int .i64 0,.int .i64 0] Qv false)).set (H.next+1) (.cells [.int .i64 0,.int .i64 0,.int .i64 0,.int .i64 0,.int .i64 0,.int .i64 0,.int .i64 0] Qv false)):=(hx.push _).set (by omega) _
  have gS2:((H'.push (.cells [.int .i64 0,.int .i64 0,.int .i64 0,.int .i64 0,.int .i64 0,.int .i64 0,.int .i64 0] Qv false)).set (H.next+1) (.cells [.int .i64 0,.int .i64 0,.int .i64 0,.int .i64 0,.int .i64 0,.int .i64 0,.int .i64 0] Qv false)).get H.next=some (.cells z10 XK false):=by rw[Qa.get_set,if_neg ne,Qa.get_push,if_neg (by omega)];exact gS
  have gM2:((H'.push (.cells [.int .i64 0,.int .i64 0,.int .i64 0,.int .i64 0,.int .i64 0,.int .i64 0,.int .i64 0] Qv false)).set (H.next+1) (.cells [.int .i64 0,.int .i64 0,.int .i64 0,.int .i64 0,.int .i64 0,.int .i64 0,.int .i64 0] Qv false)).get (H.next+1)=some (.cells [.int .i64 0,.int .i64 0,.int .i64 0,.int .i64 0,.int .i64 0,.int .i64 0,.int .i64 0] Qv false):=by rw[Qa.get_set,if_pos rfl]
  have hi2:H.next+1<((H'.push (.cells [.int .i64 0,.int .i64 0,.int .i64 0,.int .i64 0,.int .i64 0,.int .i64 0,.int .i64 0] Qv false)).set (H.next+1) (.cells [.int .i64 0,.int .i64 0,.int .i64 0,.int .i64 0,.int .i64 0,.int .i64 0,.int .i64 0] Qv false)).next:=by simp only[Qa.next_set,Qa.next_push];omega
  generalize (H'.push (.cells [.int .i64 0,.int .i64 0,.int .i64 0,.int .i64 0,.int .i64 0,.int .i64 0,.int .i64 0] Qv false)).set (H.next+1) (.cells [.int .i64 0,.int .i64 0,.int .i64 0,.int .i64 0,.int .i64 0,.int .i64 0,.int .i64 0] Qv false)=H2 at *
  cases q1:md==3 with
  | true=>
   rw[if_pos q1]at hr'
   simp only[sxA,sxB,mxA,mxB,splice,simprocAttr,a1,a3,a8,a13,a14,gS2,Wd]
   refine .ext hw (hx2.set (Nat.le_refl _) _) ⟨?_,_,rfl⟩
   rw[hr']
   simp[Sn.cells,WK,pl8]
  | false=>
   rw[if_neg (by rw[q1];decide)]at hr'
   simp only[KS,sxA,sxB,mxA,mxB,splice,simprocAttr,a14]
   cases q2:rm==4 with
   | true=>
    rw[if_pos q2]at hr'
    simp only[sxA,sxB,mxA,mxB,splice,simprocAttr]
    refine fsib _ H2 _ _ (by simp only[uxA,uxB,simprocAttr,a0]) (by simp only[uxA,uxB,simprocAttr,a2]) (by simp only[uxA,uxB,simprocAttr,a3]) (by simp only[uxA,uxB,simprocAttr,a12]) ⟨hx2,by simp only[uxA,uxB,simprocAttr,a1],by simp only[uxA,uxB,simprocAttr,a8],by simp only[uxA,uxB,simprocAttr,a13],by simp only[uxA,uxB,simprocAttr,hn],gS2,gM2,ne,by omega,hi2⟩ hr' (fun m p A3 H3 hp ha0 ha12 hf hr=>?_)
    rw[← hT]
    exact ftail2 m p A3 H3 hp ha0 ha12 hf hr
   | false=>
    rw[if_neg (by rw[q2];decide)]at hr'
    simp only[Qbw,sxA,sxB,mxA,mxB,splice,simprocAttr,a12,a14]
    by_cases q3:(md==0&&rm==5)=true
    ·rw[if_pos q3]at hr'
     obtain⟨q4,q5⟩:(md==0)=true∧(rm==5)=true:=by simpa using q3
     simp only[q4,q5,Qbv,sxA,sxB,mxA,mxB,splice,simprocAttr,a3,a12,a14]
     cases q6:bb==1 with
     | true=>
      rw[if_pos q6]at hr'
      simp only[sxA,sxB,mxA,mxB,splice,simprocAttr,a8,gS2,Wd]
      exact QfR H r hw hx2 _ hr'
     | false=>
      rw[if_neg (by rw[q6];decide)]at hr'
      simp only[sxA,sxB,mxA,mxB,splice,simprocAttr,gM2]
      rw[← hT]
      refine ftail _ _ _ (by simp only[uxA,uxB,simprocAttr,a0]) (by simp only[uxA,uxB,simprocAttr,a12]) ⟨hx2.set (by omega) _,by simp only[uxA,uxB,simprocAttr,a1],by simp only[uxA,uxB,simprocAttr,a8],by simp only[uxA,uxB,simprocAttr,a13],by simp only[uxA,uxB,simprocAttr,hn],by rw[Qa.get_set,if_neg ne];exact gS2,by rw[Qa.get_set,if_pos rfl];rfl,ne,by omega,hi2⟩ hr'
    ·rw[if_neg q3]at hr'
     have hst:∀A3:Env,A3 0=v→A3 1=.int .i64 p1→A3 8=.pointer (some ⟨H.next,0,none⟩)→A3 12=.int .i64 md→A3 13=.int .i64 mid→A3 15=.pointer (some ⟨H.next+1,0,none⟩)→T A3 (H2.set (H.next+1) (.cells [.int .i64 5,.int .i64 (pl8 bb rm),.int .i64 0,.int .i64 0,.int .i64 0,.int .i64 0,.int .i64 0] Qv false)):=fun A3 b0 b1 b8 b12 b13 b15=>by
      rw[← hT]
      exact ftail _ _ _ b0 b12 ⟨hx2.set (by omega) _,b1,b8,b13,b15,by rw[Qa.get_set,if_neg ne];exact gS2,by rw[Qa.get_set,if_pos rfl];rfl,ne,by omega,hi2⟩ hr'
     cases q4:md==0 with
     | false=>
      simp only[sxA,sxB,mxA,mxB,splice,simprocAttr,a3,a14,gM2]
      exact hst _ (by simp only[uxA,uxB,simprocAttr,a0]) (by simp only[uxA,uxB,simprocAttr,a1]) (by simp only[uxA,uxB,simprocAttr,a8]) (by simp only[uxA,uxB,simprocAttr,a12]) (by simp only[uxA,uxB,simprocAttr,a13]) (by simp only[uxA,uxB,simprocAttr,hn])
     | true=>
      have q5:(rm==5)=false:=by simpa[q4] using q3
      simp only[q5,sxA,sxB,mxA,mxB,splice,simprocAttr,a3,a14,gM2]
      exact hst _ (by simp only[uxA,uxB,simprocAttr,a0]) (by simp only[uxA,uxB,simprocAttr,a1]) (by simp only[uxA,uxB,simprocAttr,a8]) (by simp only[uxA,uxB,simprocAttr,a12]) (by simp only[uxA,uxB,simprocAttr,a13]) (by simp only[uxA,uxB,simprocAttr,hn])
 have hbad:(x==1&&(md==3||!(rm==4)))=true→r=(Ze,4):=fun h=>by rw[if_pos h]at hr';exact hr'
 repeat' (first
  | (refine Qr (fun h=>?_) (fun h=>?_)<;>(try simp only[Bool.not_eq_true',Bool.not_eq_false']at h)<;>simp only[sxA,sxB,mxA,mxB,splice,simprocAttr,h,r8,gS,Wd])
  | (refine Qg (fun h=>?_) (fun h=>?_)<;>(try simp only[Bool.not_eq_true',Bool.not_eq_false']at h)<;>simp only[sxA,sxB,mxA,mxB,splice,simprocAttr,h,r8,gS,Wd])
  | fail)
 all_goals first
  | (refine go _ (by simp only[uxA,uxB,simprocAttr,r0]) (by simp only[uxA,uxB,simprocAttr]) (by simp only[uxA,uxB,simprocAttr,r2]) (by simp only[uxA,uxB,simprocAttr,r3]) (by simp only[uxA,uxB,simprocAttr,r8]) (by simp only[uxA,uxB,simprocAttr]) (by simp only[uxA,uxB,simprocAttr]) (by simp only[uxA,uxB,simprocAttr]) (by simp_all);done)
  | (refine QfR H r hw hx _ (hbad (by simp_all));done)
theorem QkX (v:Value) (bs:List Int) (hb:QbY H v bs) (hl:bs.length≤1000000) (p x bb:Int) (hp:I64 p):Qf prog Qa2 [v,.int .i64 p,.int .i64 x,.int .i64 bb] H (Qol H (rdF bs p x bb)):=by
 refine Qji fun hw=>?_
 obtain⟨r,hr⟩:∃r,r=rdF bs p x bb:=⟨_,rfl⟩
 rw[← hr]
 have hr':r=if(decide (p<0)||decide ((bs.length:Int)<p)||decide (x<0)||decide (1<x)||decide (bb<0)||decide (1<bb))=true then(Ze,5)
  else if((Xw bs p 1 false).2==0)=true then Qiq bs (IntKind.i64.wrap (p+1)) (W4 (Xw bs p 1 false).1).1 (W4 (Xw bs p 1 false).1).2.1 (W4 (Xw bs p 1 false).1).2.2 x bb
  else(Ze,(Xw bs p 1 false).2):=hr
 clear hr
 obtain⟨a,cap,rfl,_⟩:=id hb
 have hx0:Ext H (H.push (.cells z10 XK false)):=(Ext.refl H).push _
 have gS:(H.push (.cells z10 XK false)).get H.next=some (.cells z10 XK false):=by rw[Qa.get_push,if_pos rfl]
 have hn0:(H.push (.cells z10 XK false)).next=H.next+1:=rfl
 simp only[Qds,sxA,sxB,mxA,mxB,splice,simprocAttr]
 generalize H.push (.cells z10 XK false)=H0 at *
 have go:∀A:Env,A 0=.slice a bs.length cap→A 1=.int .i64 p→A 2=.int .i64 x→A 3=.int .i64 bb→A 8=.pointer (some ⟨H.next,0,none⟩)→(decide (p<0)||decide ((bs.length:Int)<p)||decide (x<0)||decide (1<x)||decide (bb<0)||decide (1<bb))=false→Qm prog Kd ⟨KRd H r,Gw⟩ (KRd H r) A H0:=by
  intro A a0 a1 a2 a3 a8 hc
  rw[if_neg (by rw[hc];decide)]at hr'
  have qg:=VP _ bs p 1 false H0 (hb.ext hw hx0) hl hp
  simp only[Kd,sxA,sxB,mxA,mxB,splice,simprocAttr,a0,a1]
  refine qg.thenW ?_
  rintro _ H1 _ hw1 ⟨rfl,rfl⟩
  generalize Xw bs p 1 false=g at *
  obtain⟨g,ge⟩:=g
  simp only at hr'
  simp only[sxA,sxB,mxA,mxB,splice,simprocAttr]
  cases q1:ge==0 with
  | false=>
   rw[if_neg (by rw[q1];decide)]at hr'
   simp only[sxA,sxB,mxA,mxB,splice,simprocAttr,a8,gS,Wd]
   exact QfR H r hw hx0 _ hr'
  | true=>
   rw[if_pos q1]at hr'
   simp only[sxA,sxB,mxA,mxB,splice,simprocAttr]
   exact Qt6 H r hw _ bs hb hl g p x bb hp _ _ _ _ (by simp only[uxA,uxB,simprocAttr,a0]) (by simp only[uxA,uxB,simprocAttr,a1]) (by simp only[uxA,uxB,simprocAttr,a2]) (by simp only[uxA,uxB,simprocAttr,a3]) (by simp only[uxA,uxB,simprocAttr,a8]) (by simp only[uxA,uxB,simprocAttr]) hx0 hn0 gS hr'
 have hbad:(decide (p<0)||decide ((bs.length:Int)<p)||decide (x<0)||decide (1<x)||decide (bb<0)||decide (1<bb))=true→r=(Ze,5):=fun h=>by rw[if_pos h]at hr';exact hr'
 clear hr'
 repeat' (first
  | (refine Qr (fun h=>?_) (fun h=>?_)<;>(try simp only[Bool.not_eq_true',Bool.not_eq_false']at h)<;>simp only[sxA,sxB,mxA,mxB,splice,simprocAttr,h,gS,Wd])
  | (refine Qg (fun h=>?_) (fun h=>?_)<;>(try simp only[Bool.not_eq_true',Bool.not_eq_false']at h)<;>simp only[sxA,sxB,mxA,mxB,splice,simprocAttr,h,gS,Wd])
  | fail)
 all_goals first
  | (refine go _ (by simp only[uxA,uxB,simprocAttr]) (by simp only[uxA,uxB,simprocAttr]) (by simp only[uxA,uxB,simprocAttr]) (by simp only[uxA,uxB,simprocAttr]) (by simp only[uxA,uxB,simprocAttr]) (by clear go hbad;simp_all);done)
  | (refine QfR H r hw hx0 _ (hbad (by clear go hbad;simp_all));done)
end
def ppF (n:Int):Int:=if n=1 then 1 else if n=2 then 4 else if n=3 then 2 else 0
theorem Qe7 (n:Int) (H:Qa):Qf prog Gy [.int .i64 n] H fun u H'=>u=.int .i64 (ppF n)∧H'=H:=by
 refine Qjl fun hw=>?_
 simp(disch:=(first | omega | ((repeat (first | rw[Qa.next_push] | rw[Qa.next_set] | rw[Qa.next_up]));done) | ((repeat (first | rw[Qa.next_push] | rw[Qa.next_set] | rw[Qa.next_up]));omega))) only[QdA,sxA,sxB,mxD,mxB,splice,simprocAttr,QcG]
 repeat' (first
   | (refine Qg (fun h=>?_) (fun h=>?_)<;>(try simp only[Bool.not_eq_true',Bool.not_eq_false']at h)<;>simp(disch:=(first | omega | ((repeat (first | rw[Qa.next_push] | rw[Qa.next_set] | rw[Qa.next_up]));done) | ((repeat (first | rw[Qa.next_push] | rw[Qa.next_set] | rw[Qa.next_up]));omega))) only[sxA,sxB,mxD,mxB,splice,simprocAttr,QcG,h])
   | fail)
 all_goals refine .mk (Nat.le_refl _) ⟨?_,rfl⟩
 all_goals (simp only[ppF];simp_all)
def K4 (a b:Int):Int:=IntKind.i64.wrap (BitVec.ofInt IntKind.i64.bits a ^^^ BitVec.ofInt IntKind.i64.bits b).toNat
structure Vx where
 r:Int
 x:Int
 b:Int
 map:Int
 w:Int
 v:Int
 l:Int
 pre:Int
def Vx.cells (v:Vx):List Value:=[.int .i64 v.r,.int .i64 v.x,.int .i64 v.b,.int .i64 v.map,.int .i64 v.w,.int .i64 v.v,.int .i64 v.l,.int .i64 v.pre]
def JW:Vx:=⟨0,0,0,0,0,0,0,0⟩
def vx2 (b1:Int):Vx:=⟨K3 (K4 (IntKind.i64.wrap b1) 248) 7,0,0,1,0,Yl (K3 (K4 (IntKind.i64.wrap b1) 248) 3) 15,Yl (K3 (K4 (IntKind.i64.wrap b1) 248) 2) 1,ppF (Yl (K4 (IntKind.i64.wrap b1) 248) 3)⟩
def vx3 (b1 b2:Int):Vx:=⟨K3 (K4 (IntKind.i64.wrap b1) 224) 7,Yl (K3 (K4 (IntKind.i64.wrap b1) 224) 6) 1,Yl (K3 (K4 (IntKind.i64.wrap b1) 224) 5) 1,Yl (K4 (IntKind.i64.wrap b1) 224) 31,K3 (K4 (IntKind.i64.wrap b2) 120) 7,Yl (K3 (K4 (IntKind.i64.wrap b2) 120) 3) 15,Yl (K3 (K4 (IntKind.i64.wrap b2) 120) 2) 1,ppF (Yl (K4 (IntKind.i64.wrap b2) 120) 3)⟩
def W2 (bs:List Int):Vx×Int×Int:=
 if bs.length=0 then(JW,0,9)
 else if(bs.getD 0 0==197)=true then(if bs.length<2 then(JW,0,9) else(vx2 (bs.getD 1 0),2,0))
 else if(bs.getD 0 0==196)=false then(JW,0,4)
 else if bs.length<2 then(JW,0,9)
 else if(decide (Yl (K4 (IntKind.i64.wrap (bs.getD 1 0)) 224) 31<1)||decide (3<Yl (K4 (IntKind.i64.wrap (bs.getD 1 0)) 224) 31))=true then(JW,0,4)
 else if bs.length<3 then(JW,0,9) else(vx3 (bs.getD 1 0) (bs.getD 2 0),3,0)
theorem Qom (v:Value) (bs:List Int) (H:Qa) (hb:QbY H v bs) (hl:bs.length≤1000000):Qf prog Qef [v] H fun u H'=>u=.tuple #[.agg (W2 bs).1.cells.toArray,.int .i64 (W2 bs).2.1,.int .i64 (W2 bs).2.2]∧∃k,H'=H.up k:=by
 refine Qmj fun hw=>?_
 obtain⟨a,cap,rfl,hb⟩:=hb
 have hx0:Ext H (H.push (.cells JW.cells Jv false)):=(Ext.refl H).push _
 have gV:(H.push (.cells JW.cells Jv false)).get H.next=some (.cells JW.cells Jv false):=by rw[Qa.get_push,if_pos rfl]
 have hz:JW.cells=[.int .i64 0,.int .i64 0,.int .i64 0,.int .i64 0,.int .i64 0,.int .i64 0,.int .i64 0,.int .i64 0]:=rfl
 rw[hz]at hx0 gV
 have hlt:=fun(b:Nat) c e ro (h:H.get b=some (.cells c e ro))=>hw.lt h
 obtain⟨r,hr⟩:∃r,r=W2 bs:=⟨_,rfl⟩
 rw[← hr]
 have hr':r=if bs.length=0 then(JW,0,9)
  else if(bs.getD 0 0==197)=true then(if bs.length<2 then(JW,0,9) else(vx2 (bs.getD 1 0),2,0))
  else if(bs.getD 0 0==196)=false then(JW,0,4)
  else if bs.length<2 then(JW,0,9)
  else if(decide (Yl (K4 (IntKind.i64.wrap (bs.getD 1 0)) 224) 31<1)||decide (3<Yl (K4 (IntKind.i64.wrap (bs.getD 1 0)) 224) 31))=true then(JW,0,4)
  else if bs.length<3 then(JW,0,9) else(vx3 (bs.getD 1 0) (bs.getD 2 0),3,0):=hr
 clear hr
 have fin:∀ (v:Vx) (n x:Int) (H1:Qa),Ext H H1→r=(v,n,x)→Ret H (fun u H'=>u=.tuple #[.agg r.1.cells.toArray,.int .i64 r.2.1,.int .i64 r.2.2]∧∃k,H'=H.up k) (.tuple #[.agg v.cells.toArray,.int .i64 n,.int .i64 x]) H1:=fun v n x H1 h1 h2=>.ext hw h1 ⟨by rw[h2],_,rfl⟩
 have hset:∀b,Ext H ((H.push (.cells [.int .i64 0,.int .i64 0,.int .i64 0,.int .i64 0,.int .i64 0,.int .i64 0,.int .i64 0,.int .i64 0] Jv false)).set H.next b):=fun b=>hx0.set (Nat.le_refl _) b
 simp only[Qgs,sxA,sxB,mxA,mxB,splice,simprocAttr]
 generalize H.push (.cells [.int .i64 0,.int .i64 0,.int .i64 0,.int .i64 0,.int .i64 0,.int .i64 0,.int .i64 0,.int .i64 0] Jv false)=H0 at *
 have ferr:∀ (x:Int) (H1:Qa),Ext H H1→r=(JW,0,x)→Ret H (fun u H'=>u=.tuple #[.agg r.1.cells.toArray,.int .i64 r.2.1,.int .i64 r.2.2]∧∃k,H'=H.up k) (.tuple #[.agg #[.int .i64 0,.int .i64 0,.int .i64 0,.int .i64 0,.int .i64 0,.int .i64 0,.int .i64 0,.int .i64 0],.int .i64 0,.int .i64 x]) H1:=fun x H1 h1 h2=>fin JW 0 x H1 h1 h2
 by_cases n0:bs.length=0
 ·rw[if_pos n0]at hr'
  have e0:((bs.length:Int)==0)=true:=by simp[n0]
  simp only[e0,sxA,sxB,mxA,mxB,splice,simprocAttr,gV,Xe]
  exact ferr _ _ (hset _) hr'
 ·rw[if_neg n0]at hr'
  have e0:((bs.length:Int)==0)=false:=beq_eq_false_iff_ne.2 (by omega)
  obtain⟨b,o,e,ro,cs,rfl,hg,hc⟩:=hb (by omega)
  have hg0:H0.get b=some (.cells cs e ro):=(hx0.get b (hw.lt hg)).trans hg
  have c0:(0:Int)≤0∧(0:Int)<bs.length:=by omega
  have t0:(0:Int).toNat=0:=rfl
  have t1:(1:Int).toNat=1:=rfl
  have t2:(2:Int).toNat=2:=rfl
  have g0:=hc 0 (by omega)
  simp only[Nat.add_zero]at g0
  have s7:(0:Int)≤7:=by omega
  have s6:(0:Int)≤6:=by omega
  have s5:(0:Int)≤5:=by omega
  have s3:(0:Int)≤3:=by omega
  have s2:(0:Int)≤2:=by omega
  simp only[Qdy,e0,sxA,sxB,mxA,mxB,splice,simprocAttr,c0,t0,hg0,g0]
  cases q1:bs.getD 0 0==197 with
  | true=>
   rw[if_pos q1]at hr'
   by_cases n2:bs.length<2
   ·rw[if_pos n2]at hr'
    have l2:decide ((bs.length:Int)<2)=true:=decide_eq_true (by omega)
    simp only[V5,l2,sxA,sxB,mxA,mxB,splice,simprocAttr,gV,Xe]
    exact ferr _ _ (hset _) hr'
   ·rw[if_neg n2]at hr'
    have l2:decide ((bs.length:Int)<2)=false:=decide_eq_false (by omega)
    have c1:(0:Int)≤1∧(1:Int)<bs.length:=by omega
    have g1:=hc 1 (by omega)
    simp only[V5,Qdw,l2,sxA,sxB,mxA,mxB,splice,simprocAttr,c1,t1,hg0,g1,s7,s3,s2]
    refine(Qe7 _ _).thenW ?_
    rintro _ H0 _ hw1 ⟨rfl,rfl⟩
    simp only[sxA,sxB,mxA,mxB,splice,simprocAttr,gV,Xe]
    exact fin (vx2 (bs.getD 1 0)) 2 0 _ (hset _) hr'
  | false=>
   rw[if_neg (by rw[q1];decide)]at hr'
   simp only[Qdx,sxA,sxB,mxA,mxB,splice,simprocAttr,c0,t0,hg0,g0]
   cases q2:bs.getD 0 0==196 with
   | false=>
    rw[if_pos q2]at hr'
    simp only[sxA,sxB,mxA,mxB,splice,simprocAttr,gV,Xe]
    exact ferr _ _ (hset _) hr'
   | true=>
    rw[if_neg (by rw[q2];decide)]at hr'
    by_cases n2:bs.length<2
    ·rw[if_pos n2]at hr'
     have l2:decide ((bs.length:Int)<2)=true:=decide_eq_true (by omega)
     simp only[V6,l2,sxA,sxB,mxA,mxB,splice,simprocAttr,gV,Xe]
     exact ferr _ _ (hset _) hr'
    ·rw[if_neg n2]at hr'
     have l2:decide ((bs.length:Int)<2)=false:=decide_eq_false (by omega)
     have c1:(0:Int)≤1∧(1:Int)<bs.length:=by omega
     have g1:=hc 1 (by omega)
     have hxo:IntKind.i64.wrap (BitVec.ofInt IntKind.i64.bits (IntKind.i64.wrap (bs.getD 1 0)) ^^^ BitVec.ofInt IntKind.i64.bits 224).toNat=K4 (IntKind.i64.wrap (bs.getD 1 0)) 224:=rfl
     have han:IntKind.i64.wrap (BitVec.ofInt IntKind.i64.bits (K4 (IntKind.i64.wrap (bs.getD 1 0)) 224) &&& BitVec.ofInt IntKind.i64.bits 31).toNat=Yl (K4 (IntKind.i64.wrap (bs.getD 1 0)) 224) 31:=rfl
     simp only[V6,Qdv,l2,sxA,sxB,mxA,mxB,splice,simprocAttr,c1,t1,hg0,g1,hxo,han]
     have go:∀A:Env,A 0=.slice (some ⟨b,o,none⟩) bs.length cap→A 2=.pointer (some ⟨H.next,0,none⟩)→A 6=.int .i64 (K4 (IntKind.i64.wrap (bs.getD 1 0)) 224)→(decide (Yl (K4 (IntKind.i64.wrap (bs.getD 1 0)) 224) 31<1)||decide (3<Yl (K4 (IntKind.i64.wrap (bs.getD 1 0)) 224) 31))=false→Qm prog Kt ⟨Rt prog Qif H (fun u H'=>u=.tuple #[.agg r.1.cells.toArray,.int .i64 r.2.1,.int .i64 r.2.2]∧∃k,H'=H.up k),Gw⟩ (Rt prog Qif H (fun u H'=>u=.tuple #[.agg r.1.cells.toArray,.int .i64 r.2.1,.int .i64 r.2.2]∧∃k,H'=H.up k)) A H0:=by
      intro A a0 a2 a6 hp
      rw[if_neg (by rw[hp];decide)]at hr'
      by_cases n3:bs.length<3
      ·rw[if_pos n3]at hr'
       have l3:decide ((bs.length:Int)<3)=true:=decide_eq_true (by omega)
       simp only[Kt,l3,sxA,sxB,mxA,mxB,splice,simprocAttr,a0,a2,gV,Xe]
       exact ferr _ _ (hset _) hr'
      ·rw[if_neg n3]at hr'
       have l3:decide ((bs.length:Int)<3)=false:=decide_eq_false (by omega)
       have c2:(0:Int)≤2∧(2:Int)<bs.length:=by omega
       have g2:=hc 2 (by omega)
       simp only[Kt,Qdu,l3,sxA,sxB,mxA,mxB,splice,simprocAttr,a0,a6,c2,t2,hg0,g2,s7,s6,s5,s3,s2]
       refine(Qe7 _ _).thenW ?_
       rintro _ H0 _ hw1 ⟨rfl,rfl⟩
       simp only[sxA,sxB,mxA,mxB,splice,simprocAttr,a2,gV,Xe]
       exact fin (vx3 (bs.getD 1 0) (bs.getD 2 0)) 3 0 _ (hset _) hr'
     have hbad:(decide (Yl (K4 (IntKind.i64.wrap (bs.getD 1 0)) 224) 31<1)||decide (3<Yl (K4 (IntKind.i64.wrap (bs.getD 1 0)) 224) 31))=true→r=(JW,0,4):=fun h=>by rw[if_pos h]at hr';exact hr'
     clear hr'
     repeat' (first
      | (refine Qr (fun h=>?_) (fun h=>?_)<;>(try simp only[Bool.not_eq_true',Bool.not_eq_false']at h)<;>simp only[sxA,sxB,mxA,mxB,splice,simprocAttr,h,gV,Xe])
      | (refine Qg (fun h=>?_) (fun h=>?_)<;>(try simp only[Bool.not_eq_true',Bool.not_eq_false']at h)<;>simp only[sxA,sxB,mxA,mxB,splice,simprocAttr,h,gV,Xe])
      | fail)
     all_goals first
      | (refine go _ (by simp only[uxA,uxB,simprocAttr]) (by simp only[uxA,uxB,simprocAttr]) (by simp only[uxA,uxB,simprocAttr]) (by clear go hbad;simp_all);done)
      | (refine ferr _ _ (hset _) (hbad (by clear go hbad;simp_all));done)
theorem Qxy {P:Program} {fn:Func} {H0 H:Qa} {k:Value→Qa→Prop} {A:Env} {r s u w:Nat} (hr:fn.results=#[.tmp r,.tmp s,.tmp u,.tmp w]) (hn:(Nat.blt r fn.ntmps&&Nat.blt s fn.ntmps&&Nat.blt u fn.ntmps&&Nat.blt w fn.ntmps)=true):Rt P fn H0 k A H=Ret H0 k (.tuple #[A r,A s,A u,A w]) H:=by
 have:((r<fn.ntmps∧s<fn.ntmps)∧u<fn.ntmps)∧w<fn.ntmps:=by simpa using hn
 simp[Rt,QgL,Ret,GI,hr,YP,this]
theorem Qsa (H0 H:Qa) (k:Value→Qa→Prop) (A:Env):Rt prog Qoi H0 k A H=Ret H0 k (.tuple #[A 2,A 3,A 4,A 5]) H:=Qxy (by kernel_rfl) (by kernel_rfl)
def Kg (n:Nat) (i k:Nat):Int:=if k<i∧(n / 2 ^ k) % 2=1 then 1 else 0
theorem Qt7:∀ (n:Fin 16) (i:Fin 4),IntKind.i64.wrap (BitVec.ofInt IntKind.i64.bits ((n.1:Nat):Int) &&& BitVec.ofInt IntKind.i64.bits (IntKind.i64.wrap (1 * 2 ^ (min i.1 IntKind.i64.bits)))).toNat=if(n.1 / 2 ^ i.1) % 2=1 then(2 ^ i.1:Int) else 0:=by decide
theorem Qon (n:Nat) (hn:n<16) (H:Qa):Qf prog Qeg [.int .i64 n] H fun u H'=>u=.tuple #[.int .i64 (Kg n 4 3),.int .i64 (Kg n 4 2),.int .i64 (Kg n 4 1),.int .i64 (Kg n 4 0)]∧H'=H:=by
 refine Qmk fun hw=>?_
 have h0:decide ((n:Int)<0)=false:=decide_eq_false (by omega)
 have h1:decide ((15:Int)<n)=false:=decide_eq_false (by omega)
 simp only[Qgt,QdF,h0,h1,sxA,sxB,mxA,mxB,splice,simprocAttr]
 refine QX (fun m A H'=>∃i:Nat,i≤4∧m=4 - i∧H'=H∧A 0=.int .i64 n∧A 17=.int .i64 i∧A 6=.int .i64 (Kg n i 3)∧A 7=.int .i64 (Kg n i 2)∧A 8=.int .i64 (Kg n i 1)∧A 9=.int .i64 (Kg n i 0)) 4 ?_ ?_
 ·refine⟨0,Nat.zero_le _,by omega,rfl,?_,?_,?_,?_,?_,?_⟩
  all_goals simp only[uxA,uxB,simprocAttr]
  all_goals rfl
 ·rintro m A H' ⟨i,hi,rfl,rfl,r0,r17,r6,r7,r8,r9⟩
  simp only[QdE,sxA,sxB,mxA,mxB,splice,simprocAttr,r17]
  refine Qg (fun h2=>?_) (fun h2=>?_)
  ·have h2:i<4:=by have:=of_decide_eq_true h2;omega
   have c0:(0:Int)≤i:=by omega
   have c3:(i:Int).toNat=i:=by omega
   have ei:IntKind.i64.wrap ((i:Int)+1)=((i+1:Nat):Int):=by rw[w64 (by unfold I64;omega)];omega
   have ab:=Qt7 ⟨n,hn⟩ ⟨i,h2⟩
   simp only at ab
   simp only[QdD,sxA,sxB,mxA,mxB,splice,simprocAttr,r0,r17,c0,c3,ab]
   obtain⟨q,hq⟩:∃q,(n / 2 ^ i) % 2=q:=⟨_,rfl⟩
   have hq2:q=0∨q=1:=by omega
   rw[hq]
   have go:∀A2:Env,A2 0=.int .i64 n→A2 17=.int .i64 ((i+1:Nat):Int)→A2 6=.int .i64 (Kg n (i+1) 3)→A2 7=.int .i64 (Kg n (i+1) 2)→A2 8=.int .i64 (Kg n (i+1) 1)→A2 9=.int .i64 (Kg n (i+1) 0)→Qr2 (fun m A H'_1=>∃i:Nat,i≤4∧m=4 - i∧H'_1=H'∧A 0=.int .i64 n∧A 17=.int .i64 i∧A 6=.int .i64 (Kg n i 3)∧A 7=.int .i64 (Kg n i 2)∧A 8=.int .i64 (Kg n i 1)∧A 9=.int .i64 (Kg n i 0)) (4 - i) A2 H':=fun A2 a0 a17 a6 a7 a8 a9=>⟨4 - (i+1),by omega,i+1,by omega,rfl,rfl,a0,a17,a6,a7,a8,a9⟩
   obtain rfl | rfl | rfl | rfl:i=0∨i=1∨i=2∨i=3:=by omega
   all_goals rcases hq2 with rfl | rfl
   all_goals simp only[QdC,QdB,sxA,sxB,mxA,mxB,splice,simprocAttr,r17,ei,if_true,if_false,Int.reducePow,Int.reduceBEq,Nat.reduceEqDiff,Nat.zero_ne_one,Nat.one_ne_zero]
   all_goals refine go _ ?_ ?_ ?_ ?_ ?_ ?_
   all_goals simp only[uxA,uxB,simprocAttr,r0,r6,r7,r8,r9]
   all_goals (first | rfl | (simp only[Kg,hq];simp))
  ·have h2:i=4:=by have:=of_decide_eq_false h2;omega
   subst h2
   simp only[sxA,sxB,mxA,mxB,splice,simprocAttr,r6,r7,r8,r9,Qsa]
   exact .mk (Nat.le_refl _) ⟨rfl,rfl⟩
def szF (s:Int):Int:=if s=15 then 0 else if s=7 then 1 else if s=8∨s=34 then 2 else if s=9∨s=11∨s=16 then 4 else if s=10∨s=12∨s=17 then 8 else if s=13∨s=18 then 16 else if s=14∨s=19 then 32 else -1
theorem K5 (s:Int) (H:Qa):Qf prog Yo [.int .i64 s] H fun u H'=>u=.int .i64 (szF s)∧H'=H:=by
 refine QfM fun hw=>?_
 simp(disch:=(first | omega | ((repeat (first | rw[Qa.next_push] | rw[Qa.next_set] | rw[Qa.next_up]));done) | ((repeat (first | rw[Qa.next_push] | rw[Qa.next_set] | rw[Qa.next_up]));omega))) only[Qav,GV,GW,GX,GY,GZ,G0,G3,G4,G5,Gk,sxA,sxB,mxD,mxB,splice,simprocAttr,VJ]
 repeat' (first
   | (refine Qg (fun h=>?_) (fun h=>?_)<;>(try simp only[Bool.not_eq_true',Bool.not_eq_false']at h)<;>simp(disch:=(first | omega | ((repeat (first | rw[Qa.next_push] | rw[Qa.next_set] | rw[Qa.next_up]));done) | ((repeat (first | rw[Qa.next_push] | rw[Qa.next_set] | rw[Qa.next_up]));omega))) only[sxA,sxB,mxD,mxB,splice,simprocAttr,VJ,h])
   | fail)
 all_goals refine .mk (Nat.le_refl _) ⟨?_,rfl⟩
 all_goals (simp only[beq_iff_eq,beq_eq_false_iff_ne,ne_eq]at *;simp only[szF];simp[*])
def clF (s:Int):Int:=if s=1∨s=7 then 1 else if s=2∨s=8 then 3 else if s=3∨s=9 then 4 else if s=4∨s=10 then 5 else if s=5∨s=11∨s=12∨s=13 then 6 else if s=6∨s=14 then 7 else 0
theorem QaK (s:Int) (H:Qa):Qf prog Zn [.int .i64 s] H fun u H'=>u=.int .i64 (clF s)∧H'=H:=by
 refine QeW fun hw=>?_
 simp(disch:=(first | omega | ((repeat (first | rw[Qa.next_push] | rw[Qa.next_set] | rw[Qa.next_up]));done) | ((repeat (first | rw[Qa.next_push] | rw[Qa.next_set] | rw[Qa.next_up]));omega))) only[VI,Gb,Gc,Gd,Ge,Gf,Gg,Gh,Gi,Gj,KE,KF,sxA,sxB,mxD,mxB,splice,simprocAttr,GU]
 repeat' (first
   | (refine Qg (fun h=>?_) (fun h=>?_)<;>(try simp only[Bool.not_eq_true',Bool.not_eq_false']at h)<;>simp(disch:=(first | omega | ((repeat (first | rw[Qa.next_push] | rw[Qa.next_set] | rw[Qa.next_up]));done) | ((repeat (first | rw[Qa.next_push] | rw[Qa.next_set] | rw[Qa.next_up]));omega))) only[sxA,sxB,mxD,mxB,splice,simprocAttr,GU,h])
   | fail)
 all_goals refine .mk (Nat.le_refl _) ⟨?_,rfl⟩
 all_goals (simp only[beq_iff_eq,beq_eq_false_iff_ne,ne_eq]at *;simp only[clF];simp[*])
structure Rr where
 x:Lf
 bv:Value
 p:Int
 rex:Bool
 r:Int
 xx:Int
 bb:Int
 v:Int
 low:Int
 seen:Sn
def Rr.cells (c:Rr):List Value:=c.x.cells++([c.bv,.int .i64 c.p,.bool c.rex,.int .i64 c.r,.int .i64 c.xx,.int .i64 c.bb,.int .i64 c.v,.int .i64 c.low]++c.seen.cells)
theorem Wo (c:Rr):c.cells.length=28:=rfl
theorem Xf (c:Rr):List.take 10 c.cells=c.x.cells:=rfl
theorem rr1 (c:Rr):c.cells[1]? = some c.x.sv:=rfl
theorem Qjw (c:Rr):c.cells[10]? = some c.bv:=rfl
theorem QcO (c:Rr):c.cells[11]? = some (.int .i64 c.p):=rfl
theorem Qw5 (c:Rr):c.cells[12]? = some (.bool c.rex):=rfl
theorem QgY (c:Rr):c.cells[13]? = some (.int .i64 c.r):=rfl
theorem QgZ (c:Rr):c.cells[14]? = some (.int .i64 c.xx):=rfl
theorem QfS (c:Rr):c.cells[15]? = some (.int .i64 c.bb):=rfl
theorem Qoo (c:Rr) (n:Int):List.take 11 c.cells++(Value.int .i64 n::List.drop 12 c.cells)=({c with p:=n}:Rr).cells:=rfl
structure QO (H H':Qa) (b:Nat) (c:Rr):Prop where
 next:H.next≤H'.next
 get:∀id,id<H.next→id≠b→H'.get id=H.get id
 at_:H'.get b=some (.cells c.cells QG false)
theorem QO.refl {H:Qa} {b:Nat} {c:Rr} (h:H.get b=some (.cells c.cells QG false)):QO H H b c:=⟨Nat.le_refl _,fun _ _ _=>rfl,h⟩
theorem QO.trans {H H1 H2:Qa} {b:Nat} {c c':Rr} (h1:QO H H1 b c) (h2:QO H1 H2 b c'):QO H H2 b c':=
 ⟨Nat.le_trans h1.next h2.next,fun id hid hne=>by rw[h2.get id (Nat.lt_of_lt_of_le hid h1.next) hne,h1.get id hid hne],h2.at_⟩
theorem QO.up {H H1:Qa} {b:Nat} {c:Rr} (h1:QO H H1 b c) {k:Nat} (hk:H1.next≤k):QO H (H1.up k) b c:=⟨Nat.le_trans h1.next hk,fun id hid hne=>by rw[Qa.get_up];exact h1.get id hid hne,by rw[Qa.get_up];exact h1.at_⟩
theorem QO.set {H H1:Qa} {b:Nat} {c:Rr} (h1:QO H H1 b c) (c':Rr):QO H (H1.set b (.cells c'.cells QG false)) b c':=⟨h1.next,fun id hid hne=>by rw[Qa.get_set,if_neg hne];exact h1.get id hid hne,by rw[Qa.get_set,if_pos rfl]⟩
def Z7 (H:Qa) (b:Nat) (e:Int) (c:Rr):Value→Qa→Prop:=fun u H'=>u=.int .i64 e∧QO H H' b c
def Vh (f:Fm) (r x bb:Int):Bool:=
 if(r==1&&decide (QZ f.slots 1<0))=true then false
 else if(x==1&&(decide (QZ f.slots 2<0)||decide (szF (f.shapes.getD (QZ f.slots 2).toNat 0)<0)))=true then false
 else(bb==0)||decide (0≤QZ f.slots 2)||decide (0≤QZ f.slots 4)
theorem Qmu (x:Int):∀ (l:List Int) (k:Nat),QdN l x k<((k+l.length:Nat):Int)
 | [],k=>by simp[QdN];omega
 | y::l,k=>by
  unfold QdN
  split
  ·simp;omega
  ·have:=Qmu x l (k+1)
   simp only[List.length_cons]
   omega
theorem Qho (l:List Int) (x:Int):QZ l x<l.length:=by
 have:=Qmu x l 0
 unfold QZ
 omega
theorem QfT (b:Nat) (c:Rr) (H:Qa) (hc:H.get b=some (.cells c.cells QG false)) (hx:c.x.At H) (hs:c.x.f.shapes.length=c.x.f.slots.length):Qf prog Wq [.pointer (some ⟨b,0,none⟩)] H fun u H'=>u=.bool (Vh c.x.f c.r c.xx c.bb)∧∃k,H'=H.up k:=by
 refine V4 fun hw=>?_
 have q1:=fun H' (he:Ext H H')=>WC c.x 1 H' (hx.ext hw he)
 have q2:=fun H' (he:Ext H H')=>WC c.x 2 H' (hx.ext hw he)
 have q4:=fun H' (he:Ext H H')=>WC c.x 4 H' (hx.ext hw he)
 have hlt:=Qho c.x.f.slots 2
 obtain⟨a1,c1,e1,s1⟩:=id hx.2.2.1
 have hsv:c.cells[1]? = some (.slice a1 c.x.f.shapes.length c1):=by rw[rr1,e1]
 have hal:Vh c.x.f c.r c.xx c.bb=if(c.r==1&&decide (QZ c.x.f.slots 1<0))=true then false
  else if(c.xx==1&&(decide (QZ c.x.f.slots 2<0)||decide (szF (c.x.f.shapes.getD (QZ c.x.f.slots 2).toNat 0)<0)))=true then false
  else(c.bb==0)||decide (0≤QZ c.x.f.slots 2)||decide (0≤QZ c.x.f.slots 4):=rfl
 rw[hal]
 clear hal
 generalize QZ c.x.f.slots 1=i1 at *
 generalize QZ c.x.f.slots 2=i2 at *
 generalize QZ c.x.f.slots 4=i4 at *
 have hx0:=Ext.refl H
 have hcell:0≤i2→∃b1 e1 ro1,a1=some ⟨b1,0,none⟩∧H.get b1=some (.cells (ints c.x.f.shapes) e1 ro1):=fun h=>s1 (by omega)
 have l2:decide (i2<0)=!decide (0≤i2):=by rw[Bool.eq_iff_iff,Bool.not_eq_true',decide_eq_true_eq,decide_eq_false_iff_not];omega
 by_cases hk:0≤i2
 ·obtain⟨b1,t1,ro1,rfl,hb1⟩:=hcell hk
  have hlt1:=hw.lt hb1
  have hk1:decide (0≤i2)=true:=decide_eq_true hk
  have hk2:decide (i2<0)=false:=decide_eq_false (by omega)
  have d1:(0:Int)≤i2∧i2<c.x.f.shapes.length:=by omega
  have g1:=KG (l:=c.x.f.shapes) (i:=i2.toNat) (by omega)
  have qz:=fun H=>K5 (c.x.f.shapes.getD i2.toNat 0) H
  generalize szF (c.x.f.shapes.getD i2.toNat 0)=z at *
  simp only[XP,sxA,sxB,mxA,mxB,splice,simprocAttr,hc,Wo,Xf]
  refine(q2 _ hx0).thenW ?_
  rintro _ _ hn hw2 ⟨rfl,k2,rfl⟩
  have hx0:=hx0.up (show _≤k2 from hn)
  simp only[Qj,Qk,sxA,sxB,mxA,mxB,splice,simprocAttr,hc,Wo,Xf,QgY,QgZ,QfS,hsv,Qn]
  repeat' (first
   | (refine Qr (fun h=>?_) (fun h=>?_)<;>(try simp only[Bool.not_eq_true',Bool.not_eq_false']at h)<;>simp only[Qj,Qk,sxA,sxB,mxA,mxB,splice,simprocAttr,hc,Wo,Xf,QgY,QgZ,QfS,hsv,Qn,h,hk1,hk2,d1,hb1,g1])
   | (refine Qg (fun h=>?_) (fun h=>?_)<;>(try simp only[Bool.not_eq_true',Bool.not_eq_false']at h)<;>simp only[Qj,Qk,sxA,sxB,mxA,mxB,splice,simprocAttr,hc,Wo,Xf,QgY,QgZ,QfS,hsv,Qn,h,hk1,hk2,d1,hb1,g1])
   | (refine(q1 _ hx0).thenW ?_;rintro _ _ hn hw2 ⟨rfl,k,rfl⟩;have hx0:=hx0.up (show _≤k from hn);simp only[Qj,Qk,sxA,sxB,mxA,mxB,splice,simprocAttr,hc,Wo,Xf,QgY,QgZ,QfS,hsv,Qn,hk1,hk2,d1,hb1,g1])
   | (refine(q4 _ hx0).thenW ?_;rintro _ _ hn hw2 ⟨rfl,k,rfl⟩;have hx0:=hx0.up (show _≤k from hn);simp only[Qj,Qk,sxA,sxB,mxA,mxB,splice,simprocAttr,hc,Wo,Xf,QgY,QgZ,QfS,hsv,Qn,hk1,hk2,d1,hb1,g1])
   | (refine(qz _).thenW ?_;rintro _ _ hn hw2 ⟨rfl,rfl⟩;simp only[Qj,Qk,sxA,sxB,mxA,mxB,splice,simprocAttr,hc,Wo,Xf,QgY,QgZ,QfS,hsv,Qn,hk1,hk2,d1,hb1,g1])
   | fail)
  all_goals refine .ext hw hx0 ⟨?_,_,rfl⟩
  all_goals (clear q1 q2 q4 qz hc hx hsv hcell hb1 g1 e1 s1;simp_all)
 ·have hk1:decide (0≤i2)=false:=decide_eq_false hk
  have hk2:decide (i2<0)=true:=decide_eq_true (by omega)
  simp only[XP,sxA,sxB,mxA,mxB,splice,simprocAttr,hc,Wo,Xf]
  refine(q2 _ hx0).thenW ?_
  rintro _ _ hn hw2 ⟨rfl,k2,rfl⟩
  have hx0:=hx0.up (show _≤k2 from hn)
  simp only[Qj,Qk,sxA,sxB,mxA,mxB,splice,simprocAttr,hc,Wo,Xf,QgY,QgZ,QfS,hsv,Qn]
  repeat' (first
   | (refine Qr (fun h=>?_) (fun h=>?_)<;>(try simp only[Bool.not_eq_true',Bool.not_eq_false']at h)<;>simp only[Qj,Qk,sxA,sxB,mxA,mxB,splice,simprocAttr,hc,Wo,Xf,QgY,QgZ,QfS,hsv,Qn,h,hk1,hk2])
   | (refine Qg (fun h=>?_) (fun h=>?_)<;>(try simp only[Bool.not_eq_true',Bool.not_eq_false']at h)<;>simp only[Qj,Qk,sxA,sxB,mxA,mxB,splice,simprocAttr,hc,Wo,Xf,QgY,QgZ,QfS,hsv,Qn,h,hk1,hk2])
   | (refine(q1 _ hx0).thenW ?_;rintro _ _ hn hw2 ⟨rfl,k,rfl⟩;have hx0:=hx0.up (show _≤k from hn);simp only[Qj,Qk,sxA,sxB,mxA,mxB,splice,simprocAttr,hc,Wo,Xf,QgY,QgZ,QfS,hsv,Qn,hk1,hk2])
   | (refine(q4 _ hx0).thenW ?_;rintro _ _ hn hw2 ⟨rfl,k,rfl⟩;have hx0:=hx0.up (show _≤k from hn);simp only[Qj,Qk,sxA,sxB,mxA,mxB,splice,simprocAttr,hc,Wo,Xf,QgY,QgZ,QfS,hsv,Qn,hk1,hk2])
   | fail)
  all_goals refine .ext hw hx0 ⟨?_,_,rfl⟩
  all_goals (clear q1 q2 q4 hc hx hsv hcell e1 s1;simp_all)
structure Zf (H0 H:Qa) (b:Nat) (c:Rr) (bs:List Int):Prop where
 wf:H0.Wf
 hx:Ext H0 H
 lo:H0.next≤b
 at_:H.get b=some (.cells c.cells QG false)
 fm:c.x.At H0
 by_:QbY H0 c.bv bs
 len:bs.length≤1000000
 p0:0≤c.p∧c.p≤bs.length
theorem Zf.only {H0 H H':Qa} {b:Nat} {c c':Rr} {bs:List Int} (h:Zf H0 H b c bs) (ho:QO H H' b c') (hx:c'.x=c.x) (hb:c'.bv=c.bv) (hp:0≤c'.p∧c'.p≤bs.length):Zf H0 H' b c' bs:=
 ⟨h.wf,⟨Nat.le_trans h.hx.next ho.next,fun id hid=>by rw[ho.get id (Nat.lt_of_lt_of_le hid h.hx.next) (by have:=h.lo;omega),h.hx.get id hid]⟩,h.lo,ho.at_,by rw[hx];exact h.fm,by rw[hb];exact h.by_,h.len,hp⟩
theorem Zf.up {H0 H:Qa} {b:Nat} {c:Rr} {bs:List Int} (h:Zf H0 H b c bs) {k:Nat} (hk:H.next≤k):Zf H0 (H.up k) b c bs:=h.only (QO.refl h.at_ |>.up hk) rfl rfl h.p0
def Qb0 (bs:List Int) (p n:Int):Int×Int:=
 if(bs.length:Int)≤p then(9,p) else if(IntKind.i64.wrap (bs.getD p.toNat 0)==n)=false then(4,p) else(0,IntKind.i64.wrap (p+1))
theorem Qop {bs:List Int} {p n:Int} (h:0≤p∧p≤bs.length) (hl:bs.length≤1000000):0≤(Qb0 bs p n).2∧(Qb0 bs p n).2≤bs.length:=by
 unfold Qb0
 split
 ·exact h
 ·split
  ·exact h
  ·rw[w64 (by unfold I64;omega)];simp only;omega
theorem Qe9 {H0:Qa} (b:Nat) (c:Rr) (bs:List Int) (n:Int) (H:Qa) (h:Zf H0 H b c bs):Qf prog QM [.pointer (some ⟨b,0,none⟩),.int .i64 n] H (Z7 H b (Qb0 bs c.p n).1 {c with p:=(Qb0 bs c.p n).2}):=by
 refine Qau fun hw=>?_
 obtain⟨hw0,hx,lo,hc,fm,by_,len,p0⟩:=h
 obtain⟨a,cap,hbv,hby⟩:=by_
 have hbv':c.cells[10]? = some (.slice a bs.length cap):=by rw[Qjw,hbv]
 have oc:=QO.refl hc
 have he:Qb0 bs c.p n=if(bs.length:Int)≤c.p then(9,c.p) else if(IntKind.i64.wrap (bs.getD c.p.toNat 0)==n)=false then(4,c.p) else(0,IntKind.i64.wrap (c.p+1)):=rfl
 simp only[JA,sxA,sxB,mxA,mxB,splice,simprocAttr,hc,QcO,hbv']
 by_cases h1:(bs.length:Int)≤c.p
 ·rw[if_pos h1]at he
  simp only[h1,decide_true,sxA,sxB,mxA,mxB,splice,simprocAttr,XO]
  exact .mk (Nat.le_refl _) ⟨by rw[he],by rw[he];exact oc⟩
 ·rw[if_neg h1]at he
  obtain⟨bb,o,e,ro,cs,rfl,hg,hcs⟩:=hby (by omega)
  have hg':H.get bb=some (.cells cs e ro):=(hx.get bb (hw0.lt hg)).trans hg
  have c1:(0:Int)≤c.p∧c.p<bs.length:=by omega
  have g1:=hcs c.p.toNat (by omega)
  simp only[h1,decide_false,sxA,sxB,mxA,mxB,splice,simprocAttr,hc,QcO,hbv',c1,hg',g1]
  cases q:IntKind.i64.wrap (bs.getD c.p.toNat 0)==n with
  | false=>
   rw[if_pos q]at he
   simp only[sxA,sxB,mxA,mxB,splice,simprocAttr,XO]
   exact .mk (Nat.le_refl _) ⟨by rw[he],by rw[he];exact oc⟩
  | true=>
   rw[if_neg (by rw[q];decide)]at he
   simp only[sxA,sxB,mxA,mxB,splice,simprocAttr,hc,QcO,Wo,Qoo,XO]
   exact .mk (Nat.le_refl _) ⟨by rw[he],by rw[he];exact oc.set _⟩
theorem Qv0 {a b c d:Value} {l:List Value} {H:Qa} {k:Value→Qa→Prop}:QrP (.tuple (a::b::c::d::l).toArray) 3 H k=k d H:=Ql
theorem rr7 (c:Rr):c.cells[7]? = some (.int .i64 c.x.f.w):=rfl
theorem Qxz (c:Rr) (v:Bool):List.take 12 c.cells++(Value.bool v::List.drop 13 c.cells)=({c with rex:=v}:Rr).cells:=rfl
theorem Qv1 (c:Rr) (n:Int):List.take 13 c.cells++(Value.int .i64 n::List.drop 14 c.cells)=({c with r:=n}:Rr).cells:=rfl
theorem Qv2 (c:Rr) (n:Int):List.take 14 c.cells++(Value.int .i64 n::List.drop 15 c.cells)=({c with xx:=n}:Rr).cells:=rfl
theorem Qv3 (c:Rr) (n:Int):List.take 15 c.cells++(Value.int .i64 n::List.drop 16 c.cells)=({c with bb:=n}:Rr).cells:=rfl
def QJ (bs:List Int) (p:Int):Int:=IntKind.i64.wrap (bs.getD p.toNat 0)
def Qmv (c:Rr) (m:Nat):Rr:={c with rex:=true,r:=Kg m 4 2,xx:=Kg m 4 1,bb:=Kg m 4 0,p:=IntKind.i64.wrap (c.p+1)}
def X3 (c:Rr) (w:Int):Int×Rr:=if(!(w==c.x.f.w)||!Vh c.x.f c.r c.xx c.bb)=true then(4,c) else(0,c)
def Zg (bs:List Int) (c:Rr):Int×Rr:=
 if(bs.length:Int)≤c.p then(9,c)
 else if(decide (64≤QJ bs c.p)&&decide (QJ bs c.p≤79))=true then X3 (Qmv c (QJ bs c.p - 64).toNat) (Kg (QJ bs c.p - 64).toNat 4 3) else X3 c 0
theorem QcP (c:Rr) (w:Int):(X3 c w).2=c:=by unfold X3;split<;>rfl
theorem Qmw {H0:Qa} (b:Nat) (c:Rr) (bs:List Int) (H:Qa) (h:Zf H0 H b c bs) (hs:c.x.f.shapes.length=c.x.f.slots.length):Qf prog WG [.pointer (some ⟨b,0,none⟩)] H (Z7 H b (Zg bs c).1 (Zg bs c).2):=by
 refine G6 fun hw=>?_
 obtain⟨hw0,hx,lo,hc,fm,by_,len,p0⟩:=id h
 obtain⟨a,cap,hbv,hby⟩:=by_
 have hbv':∀c':Rr,c'.bv=c.bv→c'.cells[10]? = some (.slice a bs.length cap):=fun c' h=>by rw[Qjw,h,hbv]
 have hbvc:=hbv' c rfl
 have oc:=QO.refl hc
 obtain⟨r,hr⟩:∃r,r=Zg bs c:=⟨_,rfl⟩
 rw[← hr]
 have he:r=if(bs.length:Int)≤c.p then(9,c)
  else if(decide (64≤QJ bs c.p)&&decide (QJ bs c.p≤79))=true then X3 (Qmv c (QJ bs c.p - 64).toNat) (Kg (QJ bs c.p - 64).toNat 4 3) else X3 c 0:=hr
 clear hr
 have tail:∀ (c':Rr) (w:Int) (A:Env) (H1:Qa),A 0=.pointer (some ⟨b,0,none⟩)→A 3=.int .i64 w→QO H H1 b c'→c'.x=c.x→r=X3 c' w→Qm prog W3 ⟨Rt prog ZD H (Z7 H b r.1 r.2),Gw⟩ (Rt prog ZD H (Z7 H b r.1 r.2)) A H1:=by
  intro c' w A H1 a0 a3 oc1 hcx hr1
  have hc1:=oc1.at_
  have hxx:Ext H0 H1:=⟨Nat.le_trans hx.next oc1.next,fun id hid=>by rw[oc1.get id (Nat.lt_of_lt_of_le hid hx.next) (by omega),hx.get id hid]⟩
  have qa:=QfT b c' H1 hc1 (by rw[hcx];exact fm.ext hw0 hxx) (by rw[hcx];exact hs)
  have hr2:r=if(!(w==c'.x.f.w)||!Vh c'.x.f c'.r c'.xx c'.bb)=true then(4,c') else(0,c'):=hr1
  clear hr1
  simp only[W3,sxA,sxB,mxA,mxB,splice,simprocAttr,a0,a3,hc1,rr7]
  cases q1:w==c'.x.f.w with
  | false=>
   rw[if_pos (by rw[q1];rfl)]at hr2
   simp only[sxA,sxB,mxA,mxB,splice,simprocAttr,Ww]
   exact .mk oc1.next ⟨by rw[hr2],by rw[hr2];exact oc1⟩
  | true=>
   simp only[sxA,sxB,mxA,mxB,splice,simprocAttr,a0]
   refine qa.thenW ?_
   rintro _ _ hn hw2 ⟨rfl,k,rfl⟩
   have oc2:=oc1.up (show _≤k from hn)
   simp only[sxA,sxB,mxA,mxB,splice,simprocAttr]
   cases q2:Vh c'.x.f c'.r c'.xx c'.bb with
   | false=>
    rw[if_pos (by rw[q1,q2];rfl)]at hr2
    simp only[sxA,sxB,mxA,mxB,splice,simprocAttr,Ww]
    exact .mk oc2.next ⟨by rw[hr2],by rw[hr2];exact oc2⟩
   | true=>
    rw[if_neg (by rw[q1,q2];decide)]at hr2
    simp only[sxA,sxB,mxA,mxB,splice,simprocAttr,Ww]
    exact .mk oc2.next ⟨by rw[hr2],by rw[hr2];exact oc2⟩
 simp only[Y5,sxA,sxB,mxA,mxB,splice,simprocAttr,hc,QcO,hbvc]
 by_cases h1:(bs.length:Int)≤c.p
 ·rw[if_pos h1]at he
  simp only[h1,decide_true,sxA,sxB,mxA,mxB,splice,simprocAttr,Ww]
  exact .mk (Nat.le_refl _) ⟨by rw[he],by rw[he];exact oc⟩
 ·rw[if_neg h1]at he
  obtain⟨bb,o,e,ro,cs,rfl,hg,hcs⟩:=hby (by omega)
  have hg':H.get bb=some (.cells cs e ro):=(hx.get bb (hw0.lt hg)).trans hg
  have c1:(0:Int)≤c.p∧c.p<bs.length:=by omega
  have g1:=hcs c.p.toNat (by omega)
  have hby:IntKind.i64.wrap (bs.getD c.p.toNat 0)=QJ bs c.p:=rfl
  simp only[h1,decide_false,Yu,sxA,sxB,mxA,mxB,splice,simprocAttr,hc,QcO,hbvc,c1,hg',g1,hby]
  by_cases q:(decide (64≤QJ bs c.p)&&decide (QJ bs c.p≤79))=true
  ·rw[if_pos q]at he
   obtain⟨q1,q2⟩:64≤QJ bs c.p∧QJ bs c.p≤79:=by simpa using q
   obtain⟨m,hm⟩:∃m:Nat,QJ bs c.p=64+m:=⟨(QJ bs c.p - 64).toNat,by omega⟩
   have hm15:m<16:=by omega
   have em:IntKind.i64.wrap (QJ bs c.p - 64)=(m:Int):=by rw[w64 (by unfold I64;omega)];omega
   have em2:(QJ bs c.p - 64).toNat=m:=by omega
   rw[em2]at he
   simp only[decide_eq_true q1,decide_eq_true q2,Yt,sxA,sxB,mxA,mxB,splice,simprocAttr,em]
   refine(Qon m hm15 H).thenW ?_
   rintro _ H _ hw2 ⟨rfl,rfl⟩
   simp only[sxA,sxB,mxA,mxB,splice,simprocAttr,Qv0,hc,QcO,Wo,Qoo,Qxz,Qv1,Qv2,Qv3]
   refine tail (Qmv c m) _ _ _ ?_ ?_ ((((((oc.set _).set _).set _).set _).set (Qmv c m))) rfl he
   all_goals simp only[uxA,uxB,simprocAttr]
  ·rw[if_neg q]at he
   cases q1:decide (64≤QJ bs c.p) with
   | false=>
    simp only[sxA,sxB,mxA,mxB,splice,simprocAttr]
    exact tail c 0 _ _ (by simp only[uxA,uxB,simprocAttr]) (by simp only[uxA,uxB,simprocAttr]) oc rfl he
   | true=>
    have q2:decide (QJ bs c.p≤79)=false:=by simpa[q1] using q
    simp only[q2,sxA,sxB,mxA,mxB,splice,simprocAttr]
    exact tail c 0 _ _ (by simp only[uxA,uxB,simprocAttr]) (by simp only[uxA,uxB,simprocAttr]) oc rfl he
def Qmx (c n:Int):List Value:=[.int .i64 1,.int .i64 c,.int .i64 n,.int .i64 0,.int .i64 0,.int .i64 0,.int .i64 0,.int .i64 0,.int .i64 0,.int .i64 0,.int .i64 0]
def Qw6 (k n:Int):List Value:=[.int .i64 k,.int .i64 0,.int .i64 0,.int .i64 0,.int .i64 0,.int .i64 0,.int .i64 0,.int .i64 0,.int .i64 0,.int .i64 0,.int .i64 n]
def Qt9 (s:Int):List Value:=if s=28 then Qmx 1 0 else if s=29 then Qmx 3 0 else if s=30 then Qmx 4 0 else if s=31 then Qmx 5 0 else if s=32 then Qmx 1 1 else Qw6 3 1
def Qmy (H:Qa) (l:List Value):Value→Qa→Prop:=fun u H'=>u=.agg l.toArray∧∃k,H'=H.up k
theorem Qua (s:Int) (H:Qa):Qf prog GM [.int .i64 s] H (Qmy H (Qt9 s)):=by
 refine QgS fun hw=>?_
 have hx:=Ext.refl H
 simp only[QbD,sxA,sxB,mxA,mxB,splice,simprocAttr,Qaw]
 repeat' (first
   | (refine Qg (fun h=>?_) (fun h=>?_)<;>(try simp only[Bool.not_eq_true',Bool.not_eq_false']at h)<;>simp only[sxA,sxB,mxA,mxB,splice,simprocAttr,Qaw,h])
   | fail)
 all_goals refine Ret.ext hw ((hx.push _).set (Nat.le_refl _) _) ⟨?_,_,rfl⟩
 all_goals (simp only[beq_iff_eq,beq_eq_false_iff_ne,ne_eq]at *;simp only[Qt9];simp[*,Qmx,Qw6])
def Qub (c:Rr) (s n:Int):Int:=bif (clF s==1)&&!c.rex&&!c.x.f.vex&&decide (4≤n)&&decide (n≤7) then 2 else clF s
theorem rr8 (c:Rr):c.cells[8]? = some (.bool c.x.f.vex):=rfl
theorem Qoq (b:Nat) (c:Rr) (s n:Int) (H:Qa) (hc:H.get b=some (.cells c.cells QG false)):Qf prog QQ [.pointer (some ⟨b,0,none⟩),.int .i64 s,.int .i64 n] H (Qmy H (Qmx (Qub c s n) n)):=by
 refine Vr fun hw=>?_
 have hx:=Ext.refl H
 have hlt:=hw.lt hc
 have hr:Qub c s n=bif (clF s==1)&&!c.rex&&!c.x.f.vex&&decide (4≤n)&&decide (n≤7) then 2 else clF s:=rfl
 simp only[ZE,sxA,sxB,mxA,mxB,splice,simprocAttr]
 refine(QaK s _).thenW ?_
 rintro _ _ hn hw2 ⟨rfl,rfl⟩
 generalize clF s=z at *
 simp only[sxA,sxB,mxA,mxB,splice,simprocAttr,Y6,hc,Qw5,rr8]
 have hne:(b=H.next)=False:=by simp;omega
 cases b1:z==1<;>cases b2:c.rex<;>cases b3:c.x.f.vex<;>cases b4:decide (4≤n)<;>cases b5:decide (n≤7)<;>simp only[sxA,sxB,mxA,mxB,splice,simprocAttr,hne,Y6,hc,Qw5,rr8,b2,b3,b4,b5]
 all_goals refine Ret.ext hw ((hx.push _).set (Nat.le_refl _) _) ⟨?_,_,rfl⟩
 all_goals (rw[hr,b1,b2,b3,b4,b5];rfl)
theorem rr5 (c:Rr):c.cells[5]? = some (.int .i64 c.x.f.code):=rfl
theorem rr6 (c:Rr):c.cells[6]? = some (.int .i64 c.x.f.digit):=rfl
theorem Qw7 (c:Rr):c.cells[17]? = some (.int .i64 c.low):=rfl
theorem QxA (c:Rr) (n:Int):List.take 17 c.cells++(Value.int .i64 n::List.drop 18 c.cells)=({c with low:=n}:Rr).cells:=rfl
def Qbh (bs:List Int) (p:Int):Int:=IntKind.i64.wrap (IntKind.u8.wrap (BitVec.ofInt IntKind.u8.bits (bs.getD p.toNat 0) &&& BitVec.ofInt IntKind.u8.bits 7).toNat)
def We (bs:List Int) (c:Rr) (n:Int):Int×Rr:=((Qb0 bs c.p n).1,{c with p:=(Qb0 bs c.p n).2})
def opF (bs:List Int) (c:Rr):Int×Rr:=
 if(decide (QZ c.x.f.slots 4<0))=true then We bs c c.x.f.code
 else if(bs.length:Int)≤c.p then(9,c) else We bs {c with low:=Qbh bs c.p} (IntKind.i64.wrap (c.x.f.code+Qbh bs c.p))
theorem Qsc {H0:Qa} (b:Nat) (c:Rr) (bs:List Int) (H:Qa) (h:Zf H0 H b c bs):Qf prog W7 [.pointer (some ⟨b,0,none⟩)] H (Z7 H b (opF bs c).1 (opF bs c).2):=by
 refine Qar fun hw=>?_
 obtain⟨hw0,hx,lo,hc,fm,by_,len,p0⟩:=id h
 obtain⟨a,cap,hbv,hby⟩:=by_
 have hbv':∀c':Rr,c'.bv=c.bv→c'.cells[10]? = some (.slice a bs.length cap):=fun c' h=>by rw[Qjw,h,hbv]
 have hbvc:=hbv' c rfl
 obtain⟨r,hr⟩:∃r,r=opF bs c:=⟨_,rfl⟩
 rw[← hr]
 have he:r=if(decide (QZ c.x.f.slots 4<0))=true then We bs c c.x.f.code
  else if(bs.length:Int)≤c.p then(9,c) else We bs {c with low:=Qbh bs c.p} (IntKind.i64.wrap (c.x.f.code+Qbh bs c.p)):=hr
 clear hr
 have qs:=WC c.x 4 H (fm.ext hw0 hx)
 generalize QZ c.x.f.slots 4=i4 at *
 simp only[Jx,sxA,sxB,mxA,mxB,splice,simprocAttr,hc,Wo,Xf]
 refine qs.thenW ?_
 rintro _ _ hn hw2 ⟨rfl,k,rfl⟩
 have h1:=h.up (show _≤k from hn)
 have oc:=(QO.refl hc).up (show _≤k from hn)
 simp only[sxA,sxB,mxA,mxB,splice,simprocAttr]
 cases q:decide (i4<0) with
 | true=>
  rw[if_pos q]at he
  simp only[sxA,sxB,mxA,mxB,splice,simprocAttr,hc,rr5]
  refine(Qe9 b c bs c.x.f.code _ h1).thenW ?_
  rintro _ _ hn hw2 ⟨rfl,oc2⟩
  simp only[sxA,sxB,mxA,mxB,splice,simprocAttr,XL]
  exact .mk (oc.trans oc2).next ⟨by rw[he,We],by rw[he,We];exact oc.trans oc2⟩
 | false=>
  rw[if_neg (by rw[q];decide)]at he
  simp only[sxA,sxB,mxA,mxB,splice,simprocAttr,hc,QcO,hbvc]
  by_cases g:(bs.length:Int)≤c.p
  ·rw[if_pos g]at he
   simp only[g,decide_true,sxA,sxB,mxA,mxB,splice,simprocAttr,XL]
   exact .mk oc.next ⟨by rw[he],by rw[he];exact oc⟩
  ·rw[if_neg g]at he
   obtain⟨bb,o,e,ro,cs,rfl,hg,hcs⟩:=hby (by omega)
   have hg':H.get bb=some (.cells cs e ro):=(hx.get bb (hw0.lt hg)).trans hg
   have c1:(0:Int)≤c.p∧c.p<bs.length:=by omega
   have g1:=hcs c.p.toNat (by omega)
   simp only[g,decide_false,sxA,sxB,mxA,mxB,splice,simprocAttr,hc,QcO,hbvc,c1,hg',g1,Wo,QxA]
   have hlow:IntKind.i64.wrap (IntKind.u8.wrap (BitVec.ofInt IntKind.u8.bits (bs.getD c.p.toNat 0) &&& BitVec.ofInt IntKind.u8.bits 7).toNat)=Qbh bs c.p:=rfl
   rw[hlow]
   simp only[sxA,sxB,mxA,mxB,splice,simprocAttr,rr5,Qw7]
   have oc1:=oc.set {c with low:=Qbh bs c.p}
   refine(Qe9 b {c with low:=Qbh bs c.p} bs _ _ (h.only oc1 rfl rfl p0)).thenW ?_
   rintro _ _ hn hw2 ⟨rfl,oc2⟩
   simp only[sxA,sxB,mxA,mxB,splice,simprocAttr,XL]
   exact .mk (oc1.trans oc2).next ⟨by rw[he,We],by rw[he,We];exact oc1.trans oc2⟩
theorem QO.ext {H H1 H2:Qa} {b:Nat} {c:Rr} (h:QO H H1 b c) (hb:b<H.next) (hx:Ext H1 H2):QO H H2 b c:=
 ⟨Nat.le_trans h.next hx.next,fun id hid hne=>by rw[hx.get id (Nat.lt_of_lt_of_le hid h.next),h.get id hid hne],by rw[hx.get b (Nat.lt_of_lt_of_le hb h.next),h.at_]⟩
def QbP (f:Fm) (n s:Int):Bool:=!(decide (0≤f.digit)&&!(Yl (K3 n 3) 7==f.digit))&&bif K3 n 6==3 then !(clF s==0) else !decide (szF s<0)
def Qb1 (bs:List Int) (c:Rr):Int×Rr:=
 if decide (QZ c.x.f.slots 2<0)=true then(0,c)
 else if(bs.length:Int)≤c.p then(9,c)
 else if QbP c.x.f (QJ bs c.p) (c.x.f.shapes.getD (QZ c.x.f.slots 2).toNat 0)=false then(4,c)
 else if((rdF bs c.p c.xx c.bb).2==0)=false then((rdF bs c.p c.xx c.bb).2,c)
 else(0,{c with seen:=(rdF bs c.p c.xx c.bb).1,p:=(rdF bs c.p c.xx c.bb).1.ends})
theorem Qiu {H0:Qa} (b:Nat) (c:Rr) (bs:List Int) (H:Qa) (h:Zf H0 H b c bs) (hs:c.x.f.shapes.length=c.x.f.slots.length):Qf prog Xo [.pointer (some ⟨b,0,none⟩)] H (Z7 H b (Qb1 bs c).1 (Qb1 bs c).2):=by
 refine Qbb fun hw=>?_
 obtain⟨r,hr⟩:∃r,r=Qb1 bs c:=⟨_,rfl⟩
 rw[← hr]
 have he:r=if decide (QZ c.x.f.slots 2<0)=true then(0,c)
  else if(bs.length:Int)≤c.p then(9,c)
  else if QbP c.x.f (QJ bs c.p) (c.x.f.shapes.getD (QZ c.x.f.slots 2).toNat 0)=false then(4,c)
  else if((rdF bs c.p c.xx c.bb).2==0)=false then((rdF bs c.p c.xx c.bb).2,c)
  else(0,{c with seen:=(rdF bs c.p c.xx c.bb).1,p:=(rdF bs c.p c.xx c.bb).1.ends}):=hr
 clear hr
 obtain⟨hw0,hx,lo,hc,fm,by_,len,p0⟩:=id h
 have byH:∀H':Qa,Ext H H'→QbY H' c.bv bs:=fun H' hx'=>by
  obtain⟨a,cap,hbv,hby⟩:=by_
  refine⟨a,cap,hbv,fun hl=>?_⟩
  obtain⟨bb,o,e,ro,cs,e1,hg,hcs⟩:=hby hl
  have:=hw0.lt hg
  exact⟨bb,o,e,ro,cs,e1,by rw[hx'.get bb (Nat.lt_of_lt_of_le this hx.next),hx.get bb this,hg],hcs⟩
 obtain⟨a,cap,hbv,hby⟩:=id by_
 have hbv':∀c':Rr,c'.bv=c.bv→c'.cells[10]? = some (.slice a bs.length cap):=fun c' h=>by rw[Qjw,h,hbv]
 have hbvc:=hbv' c rfl
 obtain⟨a1,c1,e1,s1⟩:=id fm.2.2.1
 have hsv:c.cells[1]? = some (.slice a1 c.x.f.shapes.length c1):=by rw[rr1,e1]
 have hlt:=Qho c.x.f.slots 2
 have qs:=WC c.x 2 H (fm.ext hw0 hx)
 generalize QZ c.x.f.slots 2=i2 at *
 simp only[JS,sxA,sxB,Nat.reduceBEq,Nat.reduceEqDiff,reduceCtorEq,mxA,mxB,Nat.reduceAdd,reduceIte,Nat.reduceLeDiff,splice,hc,Wo,Xf]
 refine qs.thenW ?_
 rintro _ _ hn hw2 ⟨rfl,k,rfl⟩
 have hk:H.next≤k:=hn
 have oc:=(QO.refl hc).up hk
 have h1:=h.up (show _≤k from hn)
 simp only[ZT,sxA,sxB,Nat.reduceBEq,Nat.reduceEqDiff,reduceCtorEq,mxA,mxB,Nat.reduceAdd,reduceIte,Nat.reduceLeDiff,splice]
 cases q:decide (i2<0) with
 | true=>
  rw[if_pos q]at he
  simp only[sxA,sxB,Nat.reduceBEq,Nat.reduceEqDiff,reduceCtorEq,mxA,mxB,Nat.reduceAdd,reduceIte,Nat.reduceLeDiff,splice,QI]
  exact .mk oc.next ⟨by rw[he],by rw[he];exact oc⟩
 | false=>
  rw[if_neg (by rw[q];decide)]at he
  have q0:0≤i2:=by have:=of_decide_eq_false q;omega
  simp only[sxA,sxB,Nat.reduceBEq,Nat.reduceEqDiff,reduceCtorEq,mxA,mxB,Nat.reduceAdd,reduceIte,Nat.reduceLeDiff,splice,hc,QcO,hbvc]
  by_cases g:(bs.length:Int)≤c.p
  ·rw[if_pos g]at he
   simp only[g,decide_true,sxA,sxB,Nat.reduceBEq,Nat.reduceEqDiff,reduceCtorEq,mxA,mxB,Nat.reduceAdd,reduceIte,Nat.reduceLeDiff,splice,QI]
   exact .mk oc.next ⟨by rw[he],by rw[he];exact oc⟩
  ·rw[if_neg g]at he
   obtain⟨bb,o,e,ro,cs,rfl,hg,hcs⟩:=hby (by omega)
   have hg':H.get bb=some (.cells cs e ro):=(hx.get bb (hw0.lt hg)).trans hg
   have c2:(0:Int)≤c.p∧c.p<bs.length:=by omega
   have g1:=hcs c.p.toNat (by omega)
   obtain⟨b1,t1,ro1,rfl,hb1⟩:=s1 (by omega)
   have hb1':H.get b1=some (.cells (ints c.x.f.shapes) t1 ro1):=(hx.get b1 (hw0.lt hb1)).trans hb1
   have d1:(0:Int)≤i2∧i2<c.x.f.shapes.length:=by omega
   have g2:=KG (l:=c.x.f.shapes) (i:=i2.toNat) (by omega)
   have hby:IntKind.i64.wrap (bs.getD c.p.toNat 0)=QJ bs c.p:=rfl
   generalize hn:QJ bs c.p=n at *
   generalize hss:c.x.f.shapes.getD i2.toNat 0=s at *
   simp only[g,decide_false,ZS,sxA,sxB,Nat.reduceBEq,Nat.reduceEqDiff,reduceCtorEq,mxA,mxB,Nat.reduceAdd,reduceIte,Nat.reduceLeDiff,splice,hc,QcO,hbvc,c2,hg',g1,hsv,d1,hb1',g2,hby,rr6]
   have hok:QbP c.x.f n s=(!(decide (0≤c.x.f.digit)&&!(Yl (K3 n 3) 7==c.x.f.digit))&&bif K3 n 6==3 then !(clF s==0) else !decide (szF s<0)):=rfl
   have last:QbP c.x.f n s=true→∀ (A:Env),A 0=.pointer (some ⟨b,0,none⟩)→Qm prog XM ⟨Rt prog Xp H (Z7 H b r.1 r.2),Gw⟩ (Rt prog Xp H (Z7 H b r.1 r.2)) A (H.up k):=by
    intro ok A a0
    rw[if_neg (by rw[ok];decide)]at he
    simp only[XM,ZR,sxA,sxB,Nat.reduceBEq,Nat.reduceEqDiff,reduceCtorEq,mxA,mxB,Nat.reduceAdd,reduceIte,Nat.reduceLeDiff,splice,a0,hc,QcO,Qjw,QgZ,QfS]
    refine(QkX _ c.bv bs (byH _ ((Ext.refl H).up hk)) len c.p c.xx c.bb (by unfold I64;omega)).thenW ?_
    rintro _ _ hn2 hw2 ⟨rfl,k2,rfl⟩
    have hk2:k≤k2:=hn2
    generalize rdF bs c.p c.xx c.bb=m at *
    have sl:m.1.cells.length=10:=rfl
    have s9:m.1.cells[9]? = some (.int .i64 m.1.ends):=rfl
    have hne:(b=k2)=False:=by simp;have:=hw.lt hc;omega
    simp only[sxA,sxB,Nat.reduceBEq,Nat.reduceEqDiff,reduceCtorEq,mxA,mxB,Nat.reduceAdd,reduceIte,Nat.reduceLeDiff,splice,sl]
    have ocx:=fun B C=>oc.ext (hw.lt hc) ((((Ext.refl (H.up k)).up (show _≤k2 from hn2)).push B).set (show(H.up k).next≤k2 from hn2) C)
    cases z:m.2==0 with
    | false=>
     rw[if_pos z]at he
     simp only[sxA,sxB,Nat.reduceBEq,Nat.reduceEqDiff,reduceCtorEq,mxA,mxB,Nat.reduceAdd,reduceIte,Nat.reduceLeDiff,splice,QI,z]
     exact⟨rfl,.mk (ocx _ _).next ⟨by rw[he],by rw[he];exact ocx _ _⟩⟩
    | true=>
     rw[if_neg (by rw[z];decide)]at he
     simp only[sxA,sxB,Nat.reduceBEq,Nat.reduceEqDiff,reduceCtorEq,mxA,mxB,Nat.reduceAdd,reduceIte,Nat.reduceLeDiff,splice,QI,z,hne,hc,Wo,s9,Qoo]
     refine⟨rfl,Nat.le_of_eq sl.symm,rfl,?_⟩
     simp only[sxA,sxB,Nat.reduceBEq,Nat.reduceEqDiff,reduceCtorEq,mxA,mxB,Nat.reduceAdd,reduceIte,Nat.reduceLeDiff,splice,QI,a0,hne,hc,Wo,s9,Qoo]
     refine⟨⟨rfl,Nat.le_refl _,rfl⟩,by have:=hw.lt hc;omega,show 12≤28 by omega,?_⟩
     have of:=fun B C=>((ocx B C).set {c with seen:=m.1}).set {c with seen:=m.1,p:=m.1.ends}
     exact .mk (of _ _).next ⟨by rw[he],by rw[he];exact of _ _⟩
   have tail:((decide (0≤c.x.f.digit)&&!(Yl (K3 n 3) 7==c.x.f.digit))=false)→∀ (A:Env),A 0=.pointer (some ⟨b,0,none⟩)→A 4=.int .i64 n→A 5=.int .i64 s→Qm prog XN ⟨Rt prog Xp H (Z7 H b r.1 r.2),Gw⟩ (Rt prog Xp H (Z7 H b r.1 r.2)) A (H.up k):=by
    intro t1 A a0 a4 a5
    have h6:(0:Int)≤6:=by omega
    have h63:n.fdiv (2 ^ min (Int.toNat 6) IntKind.i64.bits)=K3 n 6:=rfl
    rw[t1]at hok
    simp only[XN,sxA,sxB,Nat.reduceBEq,Nat.reduceEqDiff,reduceCtorEq,mxA,mxB,Nat.reduceAdd,reduceIte,Nat.reduceLeDiff,splice,a0,a4,a5,h6,h63]
    cases z3:K3 n 6==3 with
    | true=>
     simp only[sxA,sxB,Nat.reduceBEq,Nat.reduceEqDiff,reduceCtorEq,mxA,mxB,Nat.reduceAdd,reduceIte,Nat.reduceLeDiff,splice,a5]
     refine(QaK s _).thenW ?_
     rintro _ _ hn2 hw2 ⟨rfl,rfl⟩
     cases z4:clF s==0 with
     | true=>
      rw[z3,z4]at hok
      rw[if_pos (by rw[hok];rfl)]at he
      simp only[sxA,sxB,Nat.reduceBEq,Nat.reduceEqDiff,reduceCtorEq,mxA,mxB,Nat.reduceAdd,reduceIte,Nat.reduceLeDiff,splice,z4,QI]
      exact .mk oc.next ⟨by rw[he],by rw[he];exact oc⟩
     | false=>
      rw[z3,z4]at hok
      simp only[sxA,sxB,Nat.reduceBEq,Nat.reduceEqDiff,reduceCtorEq,mxA,mxB,Nat.reduceAdd,reduceIte,Nat.reduceLeDiff,splice,z4,h6,h63,z3,a4]
      refine last (by rw[hok];rfl) _ ?_
      simp only[uxA,uxB,Nat.reduceBEq,a0]
    | false=>
     simp only[sxA,sxB,Nat.reduceBEq,Nat.reduceEqDiff,reduceCtorEq,mxA,mxB,Nat.reduceAdd,reduceIte,Nat.reduceLeDiff,splice,h6,h63,z3,a4,a5]
     refine(K5 s _).thenW ?_
     rintro _ _ hn hw2 ⟨rfl,rfl⟩
     cases z4:decide (szF s<0) with
     | true=>
      rw[z3,z4]at hok
      rw[if_pos (by rw[hok];rfl)]at he
      simp only[sxA,sxB,Nat.reduceBEq,Nat.reduceEqDiff,reduceCtorEq,mxA,mxB,Nat.reduceAdd,reduceIte,Nat.reduceLeDiff,splice,z4,QI]
      exact .mk oc.next ⟨by rw[he],by rw[he];exact oc⟩
     | false=>
      rw[z3,z4]at hok
      simp only[sxA,sxB,Nat.reduceBEq,Nat.reduceEqDiff,reduceCtorEq,mxA,mxB,Nat.reduceAdd,reduceIte,Nat.reduceLeDiff,splice,z4]
      refine last (by rw[hok];rfl) _ ?_
      simp only[uxA,uxB,Nat.reduceBEq,a0]
   have h3:(0:Int)≤3:=by omega
   have h33:IntKind.i64.wrap (BitVec.ofInt IntKind.i64.bits (n.fdiv (2 ^ min (Int.toNat 3) IntKind.i64.bits)) &&& BitVec.ofInt IntKind.i64.bits 7).toNat=Yl (K3 n 3) 7:=rfl
   cases z1:decide (0≤c.x.f.digit) with
   | false=>
    simp only[sxA,sxB,Nat.reduceBEq,Nat.reduceEqDiff,reduceCtorEq,mxA,mxB,Nat.reduceAdd,reduceIte,Nat.reduceLeDiff,splice]
    refine tail (by rw[z1];rfl) _ ?_ ?_ ?_
    all_goals simp only[uxA,uxB,Nat.reduceBEq]
   | true=>
    simp only[sxA,sxB,Nat.reduceBEq,Nat.reduceEqDiff,reduceCtorEq,mxA,mxB,Nat.reduceAdd,reduceIte,Nat.reduceLeDiff,splice,hc,rr6,h3,h33]
    cases z2:Yl (K3 n 3) 7==c.x.f.digit with
    | false=>
     rw[z1,z2]at hok
     rw[if_pos (by rw[hok];rfl)]at he
     simp only[sxA,sxB,Nat.reduceBEq,Nat.reduceEqDiff,reduceCtorEq,mxA,mxB,Nat.reduceAdd,reduceIte,Nat.reduceLeDiff,splice,QI]
     exact .mk oc.next ⟨by rw[he],by rw[he];exact oc⟩
    | true=>
     simp only[sxA,sxB,Nat.reduceBEq,Nat.reduceEqDiff,reduceCtorEq,mxA,mxB,Nat.reduceAdd,reduceIte,Nat.reduceLeDiff,splice]
     refine tail (by rw[z1,z2];rfl) _ ?_ ?_ ?_
     all_goals simp only[uxA,uxB,Nat.reduceBEq]
abbrev tA2:TypeId:=133
abbrev tA3:TypeId:=134
def W6 (i:Nat):Int:=if i=0 then 1 else if i=1 then 2 else 4
def Zr (i:Nat):Int:=if i=0 then 102 else if i=1 then 242 else 243
def Vi (x y:Int):Value:=.agg #[.int .i64 x,.int .i64 y]
def Qor:Value:=.agg #[.int .i64 1,.int .i64 102,.int .i64 2,.int .i64 242,.int .i64 4,.int .i64 243]
section
variable {A:Env} {H:Qa} {k:Value→Qa→Prop}
theorem Qud:pr prog (.gen (.build tA2 #[(0,(.const (.int .i64 1))),(1,(.const (.int .i64 102)))])) false A H k=k (Vi 1 102) H:=by
 have e:rop prog (.gen (.build tA2 #[(0,(.const (.int .i64 1))),(1,(.const (.int .i64 102)))])) A H=some (Vi 1 102,H):=by kernel_rfl
 refine(QP _).trans ?_
 rw[e,Ql]
theorem Que:pr prog (.gen (.build tA2 #[(0,(.const (.int .i64 2))),(1,(.const (.int .i64 242)))])) false A H k=k (Vi 2 242) H:=by
 have e:rop prog (.gen (.build tA2 #[(0,(.const (.int .i64 2))),(1,(.const (.int .i64 242)))])) A H=some (Vi 2 242,H):=by kernel_rfl
 refine(QP _).trans ?_
 rw[e,Ql]
theorem Quf:pr prog (.gen (.build tA2 #[(0,(.const (.int .i64 4))),(1,(.const (.int .i64 243)))])) false A H k=k (Vi 4 243) H:=by
 have e:rop prog (.gen (.build tA2 #[(0,(.const (.int .i64 4))),(1,(.const (.int .i64 243)))])) A H=some (Vi 4 243,H):=by kernel_rfl
 refine(QP _).trans ?_
 rw[e,Ql]
theorem Qv4:pr prog (.gen (.build tA3 #[(0,(t 16)),(1,(t 17)),(2,(t 18))])) false (upd (upd (upd A 16 (Vi 1 102)) 17 (Vi 2 242)) 18 (Vi 4 243)) H k=k Qor H:=by
 have e:rop prog (.gen (.build tA3 #[(0,(t 16)),(1,(t 17)),(2,(t 18))])) (upd (upd (upd A 16 (Vi 1 102)) 17 (Vi 2 242)) 18 (Vi 4 243)) H=some (Qor,H):=by kernel_rfl
 refine(QP _).trans ?_
 rw[e,Ql]
theorem Qug {x y:Operand} (i:Nat) (hi:i<3) (hx:ev A x=Qor) (hy:ev A y=.int .i64 i):pr prog (.gen (.index tA3 x y)) false A H k=k (Vi (W6 i) (Zr i)) H:=by
 have e0:rop prog (.gen (.index tA3 x y)) A H=rop prog (.gen (.index tA3 (.const Qor) (.const (.int .i64 i)))) A H:=by
  have h1:ev A (.const Qor)=Qor:=rfl
  have h2:ev A (.const (.int .i64 i))=.int .i64 i:=rfl
  simp only[rop,aop,QeF,hx,hy,h1,h2]
 have e:rop prog (.gen (.index tA3 x y)) A H=some (Vi (W6 i) (Zr i),H):=by
  rw[e0]
  obtain rfl | rfl | rfl:i=0∨i=1∨i=2:=by omega
  all_goals kernel_rfl
 refine(QP _).trans ?_
 rw[e,Ql]
theorem Qw8 {x:Operand} (B:Nat) (i:Nat) (hi:i<2) (hx:ev A x=.pointer (some ⟨B,0,none⟩)):pr prog (.gen (.indexAddr tA2 x (.const (.int .i64 i)))) false A H k=k (.pointer (some ⟨B,i,none⟩)) H:=by
 have e0:rop prog (.gen (.indexAddr tA2 x (.const (.int .i64 i)))) A H=rop prog (.gen (.indexAddr tA2 (.const (.pointer (some ⟨B,0,none⟩))) (.const (.int .i64 i)))) A H:=by
  have h1:ev A (.const (.pointer (some ⟨B,0,none⟩)))=.pointer (some ⟨B,0,none⟩):=rfl
  simp only[rop,aop,Kz,hx,h1]
 have e:rop prog (.gen (.indexAddr tA2 x (.const (.int .i64 i)))) A H=some (.pointer (some ⟨B,i,none⟩),H):=by
  rw[e0]
  obtain rfl | rfl:i=0∨i=1:=by omega
  all_goals kernel_rfl
 refine(QP _).trans ?_
 rw[e,Ql]
theorem Quh {ty:TypeId} (ht:prog.underlying ty=some .string) {x:Operand} {s:ByteArray} (hx:ev A x=.string s):pr prog (.gen (.range ty x)) false A H k=k (.pointer (some ⟨H.next,0,none⟩)) (H.push (.iter s 0)):=by
 have e:rop prog (.gen (.range ty x)) A H=some (.pointer (some ⟨H.next,0,none⟩),H.push (.iter s 0)):=by
  simp only[rop,aop,Qhg,hx,ht]
 refine(QP _).trans ?_
 rw[e,Ql]
theorem Qv5 {x:Operand} {b p:Nat} {s:ByteArray} (hx:ev A x=.pointer (some ⟨b,0,none⟩)) (hg:H.get b=some (.iter s p)):pr prog (.gen (.next x true)) false A H k=if p<s.size then k (.tuple #[.bool true,.int .i64 p,.int .i32 (Utf8.decode s p).1]) (H.set b (.iter s (p+(Utf8.decode s p).2))) else k (.tuple #[.bool false]) H:=by
 by_cases hp:p<s.size
 ·have e:rop prog (.gen (.next x true)) A H=some (.tuple #[.bool true,.int .i64 p,.int .i32 (Utf8.decode s p).1],H.set b (.iter s (p+(Utf8.decode s p).2))):=by
   simp only[rop,aop,hx,QjN,hg,hp,if_true]
   rfl
  rw[if_pos hp]
  refine(QP _).trans ?_
  rw[e,Ql]
 ·have e:rop prog (.gen (.next x true)) A H=some (.tuple #[.bool false],H):=by
   simp only[rop,aop,hx,QjN,hg,hp,if_false]
   rfl
  rw[if_neg hp]
  refine(QP _).trans ?_
  rw[e,Ql]
end
theorem Qse (n:Int):(mkS (WL n)).size=(WL n).length:=rfl
theorem Qiw (n:Int):WL n=[15]∨WL n=[15,56]∨WL n=[15,58]∨WL n=[]:=by
 unfold WL
 cases(n==1)<;>cases(n==2)<;>cases(n==3)<;>simp
theorem Qv6 (n:Int) (j:Nat) (h:j<(WL n).length):Utf8.decode (mkS (WL n)) j=(((WL n).getD j 0).toNat,1):=by
 rcases Qiw n with e | e | e | e<;>rw[e]at h ⊢<;>simp only[List.length_cons,List.length_nil]at h
 ·obtain rfl:j=0:=by omega
  kernel_rfl
 ·obtain rfl | rfl:j=0∨j=1:=by omega
  ·kernel_rfl
  ·kernel_rfl
 ·obtain rfl | rfl:j=0∨j=1:=by omega
  ·kernel_rfl
  ·kernel_rfl
 ·omega
def Qfb (a b:Int):Int:=IntKind.i64.wrap (BitVec.ofInt IntKind.i64.bits a &&& ~~~BitVec.ofInt IntKind.i64.bits b).toNat
theorem Qos (x:BitVec 64):BitVec.ofInt 64 (IntKind.i64.wrap x.toNat)=x:=by
 have hx:=x.isLt
 apply BitVec.eq_of_toNat_eq
 rw[BitVec.toNat_ofInt,IntKind.wrap_i64]
 omega
theorem Qui (l a b:Int):Yl (Qfb l a) b=IntKind.i64.wrap ((BitVec.ofInt 64 l &&& (~~~BitVec.ofInt 64 a &&& BitVec.ofInt 64 b)).toNat:Nat):=by
 show IntKind.i64.wrap ((BitVec.ofInt 64 (IntKind.i64.wrap ((BitVec.ofInt 64 l &&& ~~~BitVec.ofInt 64 a).toNat:Nat)) &&& BitVec.ofInt 64 b).toNat:Nat)=_
 rw[Qos,BitVec.and_assoc]
def hit (left:Int) (i:Nat):Bool:=!(Yl left (W6 i)==0)
theorem Jh (l:Int) (i j:Nat) (hi:i<3) (hj:j<3):hit (Qfb l (W6 i)) j=if i=j then false else hit l j:=by
 unfold hit
 rw[Qui]
 have z:IntKind.i64.wrap ((BitVec.ofInt 64 l &&& 0#64).toNat:Nat)=0:=by rw[BitVec.and_zero];rfl
 have e:∀b,Yl l b=IntKind.i64.wrap ((BitVec.ofInt 64 l &&& BitVec.ofInt 64 b).toNat:Nat):=fun b=>rfl
 obtain rfl | rfl | rfl:i=0∨i=1∨i=2:=by omega
 all_goals obtain rfl | rfl | rfl:j=0∨j=1∨j=2:=by omega
 all_goals first
  | (rw[show(~~~BitVec.ofInt 64 (W6 0) &&& BitVec.ofInt 64 (W6 0))=0#64 by decide,z];rfl)
  | (rw[show(~~~BitVec.ofInt 64 (W6 1) &&& BitVec.ofInt 64 (W6 1))=0#64 by decide,z];rfl)
  | (rw[show(~~~BitVec.ofInt 64 (W6 2) &&& BitVec.ofInt 64 (W6 2))=0#64 by decide,z];rfl)
  | (rw[show(~~~BitVec.ofInt 64 (W6 0) &&& BitVec.ofInt 64 (W6 1))=BitVec.ofInt 64 (W6 1) by decide,e];rfl)
  | (rw[show(~~~BitVec.ofInt 64 (W6 0) &&& BitVec.ofInt 64 (W6 2))=BitVec.ofInt 64 (W6 2) by decide,e];rfl)
  | (rw[show(~~~BitVec.ofInt 64 (W6 1) &&& BitVec.ofInt 64 (W6 0))=BitVec.ofInt 64 (W6 0) by decide,e];rfl)
  | (rw[show(~~~BitVec.ofInt 64 (W6 1) &&& BitVec.ofInt 64 (W6 2))=BitVec.ofInt 64 (W6 2) by decide,e];rfl)
  | (rw[show(~~~BitVec.ofInt 64 (W6 2) &&& BitVec.ofInt 64 (W6 0))=BitVec.ofInt 64 (W6 0) by decide,e];rfl)
  | (rw[show(~~~BitVec.ofInt 64 (W6 2) &&& BitVec.ofInt 64 (W6 1))=BitVec.ofInt 64 (W6 1) by decide,e];rfl)
def cnt (l:Int):Nat:=(hit l 0).toNat+(hit l 1).toNat+(hit l 2).toNat
theorem Qsf (l:Int):cnt l≤3:=by
 unfold cnt
 cases hit l 0<;>cases hit l 1<;>cases hit l 2<;>decide
theorem Qhp (l:Int) (i:Nat) (hi:i<3) (h:hit l i=true):cnt (Qfb l (W6 i))+1=cnt l:=by
 unfold cnt
 rw[Jh l i 0 hi (by omega),Jh l i 1 hi (by omega),Jh l i 2 hi (by omega)]
 obtain rfl | rfl | rfl:i=0∨i=1∨i=2:=by omega
 all_goals (rw[h];simp;try omega)
def Qen (bs:List Int):Nat→Int→Rr→Int×Rr
 | 0,_,c=>(0,c)
 | n+1,left,c=>
  let go:=fun i=>if((We bs c (Zr i)).1==0)=true then Qen bs n (Qfb left (W6 i)) (We bs c (Zr i)).2 else We bs c (Zr i)
  if hit left 0=true then go 0 else if hit left 1=true then go 1 else if hit left 2=true then go 2 else(0,c)
theorem Kh (bs:List Int) (n:Nat) (left:Int) (c:Rr):Qen bs (n+1) left c =
  if hit left 0=true then(if((We bs c (Zr 0)).1==0)=true then Qen bs n (Qfb left (W6 0)) (We bs c (Zr 0)).2 else We bs c (Zr 0))
  else if hit left 1=true then(if((We bs c (Zr 1)).1==0)=true then Qen bs n (Qfb left (W6 1)) (We bs c (Zr 1)).2 else We bs c (Zr 1))
  else if hit left 2=true then(if((We bs c (Zr 2)).1==0)=true then Qen bs n (Qfb left (W6 2)) (We bs c (Zr 2)).2 else We bs c (Zr 2))
  else(0,c):=rfl
theorem Qfc (bs:List Int) (n:Nat) (left:Int) (c:Rr) (i:Nat) (hi:i<3) (h0:∀j,j<i→hit left j=false) (h:hit left i=true):
  Qen bs (n+1) left c=if((We bs c (Zr i)).1==0)=true then Qen bs n (Qfb left (W6 i)) (We bs c (Zr i)).2 else We bs c (Zr i):=by
 obtain rfl | rfl | rfl:i=0∨i=1∨i=2:=by omega
 ·rw[Kh,if_pos h]
 ·rw[Kh,if_neg (by rw[h0 0 (by omega)];decide),if_pos h]
 ·rw[Kh,if_neg (by rw[h0 0 (by omega)];decide),if_neg (by rw[h0 1 (by omega)];decide),if_pos h]
theorem Qj3 (bs:List Int) (n:Nat) (left:Int) (c:Rr) (h0:∀j,j<3→hit left j=false):Qen bs n left c=(0,c):=by
 cases n with
 | zero=>rfl
 | succ n=>rw[Kh,if_neg (by rw[h0 0 (by omega)];decide),if_neg (by rw[h0 1 (by omega)];decide),if_neg (by rw[h0 2 (by omega)];decide)]
def K6 (bs:List Int):List UInt8→Rr→Int×Rr
 | [],c=>(0,c)
 | n::l,c=>if((We bs c n.toNat).1==0)=true then K6 bs l (We bs c n.toNat).2 else We bs c n.toNat
def QdP (bs:List Int) (c:Rr):Int×Rr:=if((Zg bs c).1==0)=true then K6 bs (WL (Zg bs c).2.x.f.map) (Zg bs c).2 else Zg bs c
def QdQ (bs:List Int) (e:Int×Rr):Int×Rr:=if(e.1==0)=true then QdP bs e.2 else e
def Ki (bs:List Int) (c:Rr):Int×Rr:=QdQ bs (Qen bs 4 c.x.f.pre c)
theorem QkY {bs:List Int} {c:Rr} (h:0≤c.p∧c.p≤bs.length) (hl:bs.length≤1000000):0≤(Zg bs c).2.p∧(Zg bs c).2.p≤bs.length:=by
 unfold Zg
 split
 ·exact h
 ·split
  ·rw[QcP]
   show 0≤IntKind.i64.wrap (c.p+1)∧IntKind.i64.wrap (c.p+1)≤bs.length
   rw[w64 (by unfold I64;omega)];omega
  ·rw[QcP];exact h
theorem QkZ (bs:List Int) (c:Rr):(Zg bs c).2.x=c.x∧(Zg bs c).2.bv=c.bv:=by
 unfold Zg
 split
 ·exact⟨rfl,rfl⟩
 ·split<;>rw[QcP]<;>exact⟨rfl,rfl⟩
theorem rr3 (c:Rr):c.cells[3]? = some (.int .i64 c.x.f.pre):=rfl
theorem rr4 (c:Rr):c.cells[4]? = some (.int .i64 c.x.f.map):=rfl
theorem Qw9:J0+0≠1∧J0+0≠0∧J0+0≠2:=by unfold J0;omega
theorem Zf.put {H0 H:Qa} {b:Nat} {c:Rr} {bs:List Int} (h:Zf H0 H b c bs) {i:Nat} (hi:H0.next≤i) (hne:i≠b) (B:Blk):Zf H0 (H.set i B) b c bs:=
 ⟨h.wf,h.hx.set hi B,h.lo,by rw[Qa.get_set,if_neg (fun e=>hne e.symm)];exact h.at_,h.fm,h.by_,h.len,h.p0⟩
theorem QO.put {H H':Qa} {b:Nat} {c:Rr} (h:QO H H' b c) {i:Nat} (hi:H.next≤i) (hne:i≠b) (B:Blk):QO H (H'.set i B) b c:=
 ⟨h.next,fun id hid hn=>by rw[Qa.get_set,if_neg (by omega)];exact h.get id hid hn,by rw[Qa.get_set,if_neg (fun e=>hne e.symm)];exact h.at_⟩
theorem Quj {H0 H:Qa} (b:Nat) (bs:List Int) (c:Rr) (r:Int×Rr) (e:Nat→Env→Qa→Prop) (A:Env) (H1:Qa) (hw:H.Wf) (hw1:H1.Wf) (a0:A 0=.pointer (some ⟨b,0,none⟩)) (h1:Zf H0 H1 b c bs) (oc:QO H H1 b c) (hb:b<H.next) (hs:c.x.f.shapes.length=c.x.f.slots.length) (hr:r=QdP bs c):
  Qm prog Xv ⟨Rt prog Xd H (Z7 H b r.1 r.2),e⟩ (Rt prog Xd H (Z7 H b r.1 r.2)) A H1:=by
 have hr1:r=if((Zg bs c).1==0)=true then K6 bs (WL (Zg bs c).2.x.f.map) (Zg bs c).2 else Zg bs c:=hr
 clear hr
 simp only[Xv,Zz,sxA,sxB,Nat.reduceBEq,Nat.reduceEqDiff,reduceCtorEq,mxA,mxB,Nat.reduceAdd,reduceIte,Nat.reduceLeDiff,splice,a0]
 refine(Qmw b c bs H1 h1 hs).thenW ?_
 rintro _ H2 hn hw2 ⟨rfl,oc2⟩
 have h2:=h1.only oc2 (QkZ bs c).1 (QkZ bs c).2 (QkY h1.p0 h1.len)
 have oc3:=oc.trans oc2
 generalize Zg bs c=x at *
 obtain⟨x1,c2⟩:=x
 simp only at hr1 h2 oc3 oc2
 cases q:x1==0 with
 | false=>
  rw[if_neg (by rw[q];decide)]at hr1
  simp only[sxA,sxB,Nat.reduceBEq,Nat.reduceEqDiff,reduceCtorEq,mxA,mxB,Nat.reduceAdd,reduceIte,Nat.reduceLeDiff,splice,WX,q]
  exact .mk oc3.next ⟨by rw[hr1],by rw[hr1];exact oc3⟩
 | true=>
  rw[if_pos q]at hr1
  simp only[sxA,sxB,Nat.reduceBEq,Nat.reduceEqDiff,reduceCtorEq,mxA,mxB,Nat.reduceAdd,reduceIte,Nat.reduceLeDiff,splice,a0,q,h2.at_,rr4]
  refine(QbQ c2.x.f.map H2).thenW ?_
  rintro _ H3 hn3 hw3 ⟨rfl,rfl⟩
  have hl:=Qse c2.x.f.map
  have ha:=Qv6 c2.x.f.map
  generalize WL c2.x.f.map=l at *
  have tS:prog.underlying 9=some .string:=by kernel_rfl
  simp only[sxA,sxB,Nat.reduceBEq,Nat.reduceEqDiff,reduceCtorEq,mxA,mxB,Nat.reduceAdd,reduceIte,Nat.reduceLeDiff,splice]
  rw[Quh tS (s:=mkS l) (by simp only[uxA,uxB,Nat.reduceBEq])]
  simp only[sxA,sxB,Nat.reduceBEq,Nat.reduceEqDiff,reduceCtorEq,mxA,mxB,Nat.reduceAdd,reduceIte,Nat.reduceLeDiff,splice]
  have hw4:=hw3.push (.iter (mkS l) 0)
  refine QX (fun m A' H'=>∃ (j:Nat) (c':Rr),j≤l.length∧m=l.length - j∧A' 0=.pointer (some ⟨b,0,none⟩)∧A' 51=.pointer (some ⟨H3.next,0,none⟩)∧H'.Wf∧H3.next<H'.next∧H'.get H3.next=some (.iter (mkS l) j)∧Zf H0 H' b c' bs∧QO H H' b c'∧r=K6 bs (l.drop j) c') l.length ?_ ?_
  ·refine⟨0,c2,Nat.zero_le _,by omega,?_,?_,hw4,?_,?_,?_,?_,hr1⟩
   ·simp only[uxA,uxB,Nat.reduceBEq,a0]
   ·simp only[uxA,uxB,Nat.reduceBEq]
   ·simp only[Qa.next_push];omega
   ·rw[Qa.get_push,if_pos rfl]
   ·exact h2.only (QO.refl h2.at_ |>.ext (hw3.lt h2.at_) ((Ext.refl H3).push _)) rfl rfl h2.p0
   ·exact oc3.ext hb ((Ext.refl H3).push _)
  ·rintro m A' H' ⟨j,c',hj,rfl,r0,r51,hw',hlt,hg,hrd,hoc,hrr⟩
   simp only[Zy,Zx,sxA,sxB,Nat.reduceBEq,Nat.reduceEqDiff,reduceCtorEq,mxA,mxB,Nat.reduceAdd,reduceIte,Nat.reduceLeDiff,splice]
   rw[Qv5 (A:=A') (x:=t 51) (b:=H3.next) (p:=j) (s:=mkS l) (by simp only[uxA,uxB,Nat.reduceBEq,r51]) hg]
   have hHb:H.next≤H3.next:=oc3.next
   have hneb:H3.next≠b:=by omega
   have hH0:H0.next≤H3.next:=by have:=h2.hx.next;omega
   by_cases hjl:j<l.length
   ·rw[if_pos (by rw[hl];exact hjl),ha j hjl]
    have hd:l.drop j=l.getD j 0::l.drop (j+1):=by
     rw[List.drop_eq_getElem_cons hjl,List.getD_eq_getElem?_getD,List.getElem?_eq_getElem hjl];rfl
    generalize l.getD j 0=x at *
    have hx256:x.toNat<256:=x.toNat_lt
    have hwx:IntKind.i64.wrap ((x.toNat:Nat):Int)=x.toNat:=w64 (by unfold I64;omega)
    have hr4:=hrd.put hH0 hneb (.iter (mkS l) (j+1))
    have ho4:=hoc.put hHb hneb (.iter (mkS l) (j+1))
    have hg4:(H'.set H3.next (.iter (mkS l) (j+1))).get H3.next=some (.iter (mkS l) (j+1)):=by rw[Qa.get_set,if_pos rfl]
    have hn4:H3.next<(H'.set H3.next (.iter (mkS l) (j+1))).next:=hlt
    rw[hd]at hrr
    have hrr2:r=if((We bs c' x.toNat).1==0)=true then K6 bs (l.drop (j+1)) (We bs c' x.toNat).2 else We bs c' x.toNat:=hrr
    clear hrr
    generalize H'.set H3.next (.iter (mkS l) (j+1))=H4 at *
    simp only[sxA,sxB,Nat.reduceBEq,Nat.reduceEqDiff,reduceCtorEq,mxA,mxB,Nat.reduceAdd,reduceIte,Nat.reduceLeDiff,splice,r0,hwx]
    refine(Qe9 b c' bs x.toNat H4 hr4).thenW ?_
    rintro _ H5 hn5 hw5 ⟨rfl,oc5⟩
    have h5:=hr4.only oc5 rfl rfl (Qop hr4.p0 hr4.len)
    have oc6:=ho4.trans oc5
    have hg5:H5.get H3.next=some (.iter (mkS l) (j+1)):=by rw[oc5.get _ hn4 hneb];exact hg4
    have hz:(We bs c' x.toNat).1=(Qb0 bs c'.p x.toNat).1:=rfl
    have hz2:(We bs c' x.toNat).2={c' with p:=(Qb0 bs c'.p x.toNat).2}:=rfl
    rw[← hz]
    rw[← hz2]at h5 oc6
    cases z:(We bs c' x.toNat).1==0 with
    | false=>
     rw[if_neg (by rw[z];decide)]at hrr2
     simp only[sxA,sxB,Nat.reduceBEq,Nat.reduceEqDiff,reduceCtorEq,mxA,mxB,Nat.reduceAdd,reduceIte,Nat.reduceLeDiff,splice,z,WX]
     exact .mk oc6.next ⟨by rw[hrr2],by rw[hrr2];exact oc6⟩
    | true=>
     rw[if_pos z]at hrr2
     simp only[sxA,sxB,Nat.reduceBEq,Nat.reduceEqDiff,reduceCtorEq,mxA,mxB,Nat.reduceAdd,reduceIte,Nat.reduceLeDiff,splice,z]
     refine⟨_,?_,j+1,(We bs c' x.toNat).2,hjl,rfl,?_,?_,hw5,Nat.lt_of_lt_of_le hn4 oc5.next,hg5,h5,oc6,hrr2⟩
     ·omega
     ·simp only[uxA,uxB,Nat.reduceBEq,r0]
     ·simp only[uxA,uxB,Nat.reduceBEq,r51]
   ·rw[if_neg (by rw[hl];exact hjl)]
    have hd:l.drop j=[]:=List.drop_eq_nil_of_le (by omega)
    rw[hd]at hrr
    have hrr2:r=(0,c'):=hrr
    simp only[sxA,sxB,Nat.reduceBEq,Nat.reduceEqDiff,reduceCtorEq,mxA,mxB,Nat.reduceAdd,reduceIte,Nat.reduceLeDiff,splice,WX]
    exact .mk hoc.next ⟨by rw[hrr2],by rw[hrr2];exact hoc⟩
theorem Qva {A:Env} {H:Qa} {k:Value→Qa→Prop} {x:Operand} (B:Nat) (hx:ev A x=.pointer (some ⟨B,0,none⟩)):pr prog (.gen (.indexAddr tA2 x (.const (.int .i64 0)))) false A H k=k (.pointer (some ⟨B,0,none⟩)) H:=Qw8 B 0 (by omega) hx
theorem Qxa {A:Env} {H:Qa} {k:Value→Qa→Prop} {x:Operand} (B:Nat) (hx:ev A x=.pointer (some ⟨B,0,none⟩)):pr prog (.gen (.indexAddr tA2 x (.const (.int .i64 1)))) false A H k=k (.pointer (some ⟨B,1,none⟩)) H:=Qw8 B 1 (by omega) hx
theorem Qsg {H0:Qa} (b:Nat) (c:Rr) (bs:List Int) (H:Qa) (h:Zf H0 H b c bs) (hs:c.x.f.shapes.length=c.x.f.slots.length):Qf prog Yd [.pointer (some ⟨b,0,none⟩)] H (Z7 H b (Ki bs c).1 (Ki bs c).2):=by
 refine Qat fun hw=>?_
 obtain⟨r,hr⟩:∃r,r=Ki bs c:=⟨_,rfl⟩
 rw[← hr]
 have hr0:r=QdQ bs (Qen bs 4 c.x.f.pre c):=hr
 clear hr
 have hb:b<H.next:=hw.lt h.at_
 simp only[Jz,sxA,sxB,Nat.reduceBEq,Nat.reduceEqDiff,reduceCtorEq,mxA,mxB,Nat.reduceAdd,reduceIte,Nat.reduceLeDiff,splice]
 have body:∀ (I:Nat→Env→Qa→Prop),I=(fun m A' H'=>∃ (left:Int) (c':Rr),cnt left≤m∧A' 0=.pointer (some ⟨b,0,none⟩)∧A' 3=.int .i64 left∧H'.Wf∧Zf H0 H' b c' bs∧QO H H' b c'∧c'.x=c.x∧r=QdQ bs (Qen bs m left c'))→∀m A' H',I m A' H'→
   Qm prog WH ⟨Rt prog Xd H (Z7 H b r.1 r.2),jmK 0 I m Gw⟩ (Rt prog Xd H (Z7 H b r.1 r.2)) A' H':=by
  intro I hI m A' H' hin
  rw[hI]at hin
  obtain⟨left,c',hm,a0,a3,hw',hrd,hoc,hcx,hrr⟩:=hin
  simp only[WH,sxA,sxB,Nat.reduceBEq,Nat.reduceEqDiff,reduceCtorEq,mxA,mxB,Nat.reduceAdd,reduceIte,Nat.reduceLeDiff,splice,Qud,Que,Quf]
  rw[Qv4]
  simp only[sxA,sxB,Nat.reduceBEq,Nat.reduceEqDiff,reduceCtorEq,mxA,mxB,Nat.reduceAdd,reduceIte,Nat.reduceLeDiff,splice]
  refine QX (fun q A2 H2=>∃i:Nat,i≤3∧q=3 - i∧A2 0=.pointer (some ⟨b,0,none⟩)∧A2 3=.int .i64 left∧A2 19=Qor∧A2 20=.int .i64 i∧(∀j,j<i→hit left j=false)∧H2.Wf∧Zf H0 H2 b c' bs∧QO H H2 b c') 3 ?_ ?_
  ·refine⟨0,by omega,rfl,?_,?_,?_,?_,fun j hj=>by omega,hw',hrd,hoc⟩
   all_goals simp only[uxA,uxB,Nat.reduceBEq,a0,a3]
   rfl
  ·rintro q A2 H2 ⟨i,hi,rfl,r0,r3,r19,r20,hno,hw2,hrd2,hoc2⟩
   simp only[ZC,sxA,sxB,Nat.reduceBEq,Nat.reduceEqDiff,reduceCtorEq,mxA,mxB,Nat.reduceAdd,reduceIte,Nat.reduceLeDiff,splice,r20]
   by_cases h3:i<3
   ·have h3':(i:Int)<3:=by omega
    simp only[h3',decide_true,ZB,sxA,sxB,Nat.reduceBEq,Nat.reduceEqDiff,reduceCtorEq,mxA,mxB,Nat.reduceAdd,reduceIte,Nat.reduceLeDiff,splice]
    rw[Qug i h3 (by simp only[uxA,uxB,Nat.reduceBEq,r19]) (by simp only[uxA,uxB,Nat.reduceBEq,r20])]
    simp only[Vi,sxA,sxB,Nat.reduceBEq,Nat.reduceEqDiff,reduceCtorEq,mxA,mxB,Nat.reduceAdd,reduceIte,Nat.reduceLeDiff,splice]
    have hg3:((H2.push (.cells [.int .i64 0,.int .i64 0] tA2 false)).set H2.next (.cells [.int .i64 (W6 i),.int .i64 (Zr i)] tA2 false)).get H2.next=some (.cells [.int .i64 (W6 i),.int .i64 (Zr i)] tA2 false):=by rw[Qa.get_set,if_pos rfl]
    have hw3:((H2.push (.cells [.int .i64 0,.int .i64 0] tA2 false)).set H2.next (.cells [.int .i64 (W6 i),.int .i64 (Zr i)] tA2 false)).Wf:=(hw2.push _).set (by rw[Qa.get_push,if_pos rfl]) _
    have hx3:Ext H2 ((H2.push (.cells [.int .i64 0,.int .i64 0] tA2 false)).set H2.next (.cells [.int .i64 (W6 i),.int .i64 (Zr i)] tA2 false)):=((Ext.refl H2).push _).set (Nat.le_refl _) _
    generalize (H2.push (.cells [.int .i64 0,.int .i64 0] tA2 false)).set H2.next (.cells [.int .i64 (W6 i),.int .i64 (Zr i)] tA2 false)=H3 at *
    have hrd3:=hrd2.only ((QO.refl hrd2.at_).ext (hw2.lt hrd2.at_) hx3) rfl rfl hrd2.p0
    have hoc3:=hoc2.ext hb hx3
    rw[Qva H2.next (by simp only[uxA,uxB,Nat.reduceBEq])]
    have hand:IntKind.i64.wrap (BitVec.ofInt IntKind.i64.bits left &&& BitVec.ofInt IntKind.i64.bits (W6 i)).toNat=Yl left (W6 i):=rfl
    have hclr:IntKind.i64.wrap (BitVec.ofInt IntKind.i64.bits left &&& ~~~BitVec.ofInt IntKind.i64.bits (W6 i)).toNat=Qfb left (W6 i):=rfl
    simp only[sxA,sxB,Nat.reduceBEq,Nat.reduceEqDiff,reduceCtorEq,mxA,mxB,Nat.reduceAdd,reduceIte,Nat.reduceLeDiff,splice,hg3,r3,hand]
    cases z:Yl left (W6 i)==0 with
    | true=>
     have hh:hit left i=false:=by unfold hit;rw[z];rfl
     have ek:IntKind.i64.wrap ((i:Int)+1)=((i+1:Nat):Int):=by rw[w64 (by unfold I64;omega)];omega
     simp only[sxA,sxB,Nat.reduceBEq,Nat.reduceEqDiff,reduceCtorEq,mxA,mxB,Nat.reduceAdd,reduceIte,Nat.reduceLeDiff,splice,r20,ek]
     refine⟨_,?_,i+1,h3,rfl,?_,?_,?_,?_,fun j hj=>?_,hw3,hrd3,hoc3⟩
     ·omega
     ·simp only[uxA,uxB,Nat.reduceBEq,r0]
     ·simp only[uxA,uxB,Nat.reduceBEq,r3]
     ·simp only[uxA,uxB,Nat.reduceBEq,r19]
     ·simp only[uxA,uxB,Nat.reduceBEq]
     ·by_cases e:j=i
      ·rw[e];exact hh
      ·exact hno j (by omega)
    | false=>
     have hh:hit left i=true:=by unfold hit;rw[z];rfl
     have hc1:=Qhp left i h3 hh
     obtain⟨n,rfl⟩:∃n,m=n+1:=⟨m - 1,by omega⟩
     rw[Qfc bs n left c' i h3 hno hh]at hrr
     simp only[ZA,sxA,sxB,Nat.reduceBEq,Nat.reduceEqDiff,reduceCtorEq,mxA,mxB,Nat.reduceAdd,reduceIte,Nat.reduceLeDiff,splice]
     rw[Qxa H2.next (by simp only[uxA,uxB,Nat.reduceBEq])]
     simp only[sxA,sxB,Nat.reduceBEq,Nat.reduceEqDiff,reduceCtorEq,mxA,mxB,Nat.reduceAdd,reduceIte,Nat.reduceLeDiff,splice,hg3,r0]
     refine(Qe9 b c' bs (Zr i) H3 hrd3).thenW ?_
     rintro _ H4 hn4 hw4 ⟨rfl,oc4⟩
     have h4:=hrd3.only oc4 rfl rfl (Qop hrd3.p0 hrd3.len)
     have hoc4:=hoc3.trans oc4
     have hg4:H4.get H2.next=some (.cells [.int .i64 (W6 i),.int .i64 (Zr i)] tA2 false):=by
      rw[oc4.get _ (hw3.lt hg3) (by have:=hw2.lt hrd2.at_;omega)];exact hg3
     have hz:(We bs c' (Zr i)).1=(Qb0 bs c'.p (Zr i)).1:=rfl
     have hz2:(We bs c' (Zr i)).2={c' with p:=(Qb0 bs c'.p (Zr i)).2}:=rfl
     have hz3:(We bs c' (Zr i)).2.x=c'.x:=rfl
     rw[← hz]
     rw[← hz2]at h4 hoc4
     generalize We bs c' (Zr i)=x at *
     cases z2:x.1==0 with
     | false=>
      rw[if_neg (by rw[z2];decide)]at hrr
      have hrr2:r=x:=by rw[hrr];unfold QdQ;rw[if_neg (by rw[z2];decide)]
      simp only[sxA,sxB,Nat.reduceBEq,Nat.reduceEqDiff,reduceCtorEq,mxA,mxB,Nat.reduceAdd,reduceIte,Nat.reduceLeDiff,splice,z2,WX]
      exact .mk hoc4.next ⟨by rw[hrr2],by rw[hrr2];exact hoc4⟩
     | true=>
      rw[if_pos z2]at hrr
      have hj:=Qw9
      simp only[sxA,sxB,Nat.reduceBEq,Nat.reduceEqDiff,reduceCtorEq,mxA,mxB,Nat.reduceAdd,reduceIte,Nat.reduceLeDiff,splice,z2,r3]
      rw[Qva H2.next (by simp only[uxA,uxB,Nat.reduceBEq])]
      simp only[sxA,sxB,Nat.reduceBEq,Nat.reduceEqDiff,reduceCtorEq,mxA,mxB,Nat.reduceAdd,reduceIte,Nat.reduceLeDiff,splice,hg4,r3,hclr,QfG _ _ _ _ _ _ hj.1,QfG _ _ _ _ _ _ hj.2.1,QrD]
      rw[hI]
      refine⟨n,by omega,Qfb left (W6 i),x.2,by omega,?_,?_,hw4,h4,hoc4,by rw[hz3,hcx],hrr⟩
      ·simp only[uxA,uxB,Nat.reduceBEq,r0]
      ·simp only[uxA,uxB,Nat.reduceBEq]
   ·have h3':¬ (i:Int)<3:=by omega
    simp only[h3',decide_false,sxA,sxB,Nat.reduceBEq,Nat.reduceEqDiff,reduceCtorEq,mxA,mxB,Nat.reduceAdd,reduceIte,Nat.reduceLeDiff,splice]
    obtain rfl:i=3:=by omega
    rw[Qj3 bs m left c' hno]at hrr
    exact Quj b bs c' r _ _ H2 hw hw2 (by simp only[uxA,uxB,Nat.reduceBEq,r0]) hrd2 hoc2 hb (by rw[hcx];exact hs) hrr
 refine Qgl _ 4 ?_ (body _ rfl)
 have e16:YU=WH:=rfl
 simp only[YV,sxA,sxB,Nat.reduceBEq,Nat.reduceEqDiff,reduceCtorEq,mxA,mxB,Nat.reduceAdd,reduceIte,Nat.reduceLeDiff,splice,h.at_,rr3,e16]
 refine body _ rfl 4 _ _ ⟨c.x.f.pre,c,Nat.le_trans (Qsf _) (by omega),?_,?_,hw,h,QO.refl h.at_,rfl,hr0⟩
 all_goals simp only[uxA,uxB,Nat.reduceBEq]
def Quk (bs:List Int) (c:Rr):Rr:={c with r:=(W2 bs).1.r,xx:=(W2 bs).1.x,bb:=(W2 bs).1.b,v:=(W2 bs).1.v,p:=(W2 bs).2.1}
def QdR (m:Vx) (f:Fm):Bool:=!(m.map==f.map)||(!(f.w==-1)&&!(m.w==f.w))||!(m.l==f.l)||!(m.pre==f.pre)
def QcQ (bs:List Int) (c:Rr):Int×Rr:=
 if((W2 bs).2.2==0)=false then((W2 bs).2.2,c)
 else if QdR (W2 bs).1 c.x.f=true then(4,Quk bs c)
 else if((!((W2 bs).1.v==0)&&decide (QZ c.x.f.slots 3<0))||!Vh c.x.f (W2 bs).1.r (W2 bs).1.x (W2 bs).1.b)=true then(4,Quk bs c)
 else(0,Quk bs c)
theorem Qk0 (bs:List Int):0≤(W2 bs).2.1∧(W2 bs).2.1≤bs.length:=by
 unfold W2
 repeat' split
 all_goals (simp only;omega)
theorem Qxb (c:Rr):c.cells[7]? = some (.int .i64 c.x.f.w):=rfl
theorem rr9 (c:Rr):c.cells[9]? = some (.int .i64 c.x.f.l):=rfl
theorem QxB (c:Rr) (n:Int):List.take 16 c.cells++(Value.int .i64 n::List.drop 17 c.cells)=({c with v:=n}:Rr).cells:=rfl
theorem Qv7 (v:Vx):v.cells.length=8:=rfl
theorem vx0 (v:Vx):v.cells[0]? = some (.int .i64 v.r):=rfl
theorem vx1 (v:Vx):v.cells[1]? = some (.int .i64 v.x):=rfl
theorem QxC (v:Vx):v.cells[2]? = some (.int .i64 v.b):=rfl
theorem QxD (v:Vx):v.cells[3]? = some (.int .i64 v.map):=rfl
theorem vx4 (v:Vx):v.cells[4]? = some (.int .i64 v.w):=rfl
theorem vx5 (v:Vx):v.cells[5]? = some (.int .i64 v.v):=rfl
theorem vx6 (v:Vx):v.cells[6]? = some (.int .i64 v.l):=rfl
theorem vx7 (v:Vx):v.cells[7]? = some (.int .i64 v.pre):=rfl
theorem Qpq {H0 H:Qa} (b:Nat) (bs:List Int) (c:Rr) (r:Int×Rr) (e:Nat→Env→Qa→Prop) (A:Env) (H1:Qa) (hw:H.Wf) (hw1:H1.Wf) (a0:A 0=.pointer (some ⟨b,0,none⟩)) (h1:Zf H0 H1 b c bs) (oc:QO H H1 b c) (hb:b<H.next) (hs:c.x.f.shapes.length=c.x.f.slots.length) (hr:r=QcQ bs c):
    Qm prog Xt ⟨Rt prog Xc H (Z7 H b r.1 r.2),e⟩ (Rt prog Xc H (Z7 H b r.1 r.2)) A H1:=by
  have hr1:r=if((W2 bs).2.2==0)=false then((W2 bs).2.2,c)
    else if QdR (W2 bs).1 c.x.f=true then(4,{c with r:=(W2 bs).1.r,xx:=(W2 bs).1.x,bb:=(W2 bs).1.b,v:=(W2 bs).1.v,p:=(W2 bs).2.1})
    else if((!((W2 bs).1.v==0)&&decide (QZ c.x.f.slots 3<0))||!Vh c.x.f (W2 bs).1.r (W2 bs).1.x (W2 bs).1.b)=true then(4,{c with r:=(W2 bs).1.r,xx:=(W2 bs).1.x,bb:=(W2 bs).1.b,v:=(W2 bs).1.v,p:=(W2 bs).2.1})
    else(0,{c with r:=(W2 bs).1.r,xx:=(W2 bs).1.x,bb:=(W2 bs).1.b,v:=(W2 bs).1.v,p:=(W2 bs).2.1}):=hr
  clear hr
  have hvp:=Qk0 bs
  obtain⟨hw0,hx,lo,hc,fm,by_,len,p0⟩:=id h1
  have byH:QbY H1 c.bv bs:=by
    obtain⟨a,cap,hbv,hby⟩:=by_
    refine⟨a,cap,hbv,fun hl=>?_⟩
    obtain⟨bb,o,e,ro,cs,e1,hg,hcs⟩:=hby hl
    exact⟨bb,o,e,ro,cs,e1,by rw[hx.get bb (hw0.lt hg),hg],hcs⟩
  simp only[Xt,sxA,sxB,mxA,mxB,splice,simprocAttr,a0,hc,Qjw]
  refine(Qom c.bv bs H1 byH len).thenW ?_
  rintro _ _ hn hw2 ⟨rfl,k,rfl⟩
  have hk:H1.next≤k:=hn
  have oc2:=oc.up hk
  have h2:=h1.up hk
  have hbk:b<k:=Nat.lt_of_lt_of_le hb (Nat.le_trans oc.next hk)
  generalize W2 bs=mm at *
  obtain⟨m,n,x⟩:=mm
  simp only at hr1 hvp
  simp only[sxA,sxB,mxA,mxB,splice,simprocAttr,Qv7]
  have hx3:=fun B C=>((Ext.refl (H1.up k)).push B).set (i:=k) (Nat.le_refl _) C
  cases z:x==0 with
  | false=>
    rw[if_pos z]at hr1
    simp only[sxA,sxB,mxA,mxB,splice,simprocAttr,z,Qo]
    exact⟨rfl,.mk (oc2.ext hb (hx3 _ _)).next ⟨by rw[hr1],by rw[hr1];exact oc2.ext hb (hx3 _ _)⟩⟩
  | true=>
    rw[if_neg (by rw[z];decide)]at hr1
    have hne:(b=k)=False:=by simp;omega
    simp only[Zt,sxA,sxB,mxA,mxB,splice,simprocAttr,z,a0,hne]
    refine⟨rfl,?_⟩
    have hbel:∀ (q:Int) (K:Nat),(QK K 6 (.int .i64 q)=true)=True:=fun _ _=>eq_true rfl
    have hne2:(k=b)=False:=by simp;omega
    simp only[sxA,sxB,mxA,mxB,splice,simprocAttr,vx0,vx1,QxC,vx5,hbel,true_and,a0,hne,hne2,hc,Wo,Qv1,Qv2,Qv3,QxB,Qoo]
    obtain⟨c9,hc9⟩:∃c9:Rr,c9={c with r:=m.r,xx:=m.x,bb:=m.b,v:=m.v,p:=n}:=⟨_,rfl⟩
    rw[← hc9]at hr1 ⊢
    generalize hH9:Qa.set _ b (.cells c9.cells QG false)=H9
    have oc9:QO H1 H9 b c9:=by
      rw[← hH9]
      exact(((((((QO.refl hc).up hk).ext (Nat.lt_of_lt_of_le hb oc.next) (hx3 _ _)).set _).set _).set _).set _).set c9
    have gk:H9.get k=some (.cells m.cells Jv false):=by
      rw[← hH9]
      simp only[Qa.get_set,hne2,if_false,if_true]
    have h9:=h1.only oc9 (by rw[hc9]) (by rw[hc9]) (by rw[hc9];exact hvp)
    have oc19:=oc.trans oc9
    have x9:c9.x=c.x:=by rw[hc9]
    have hr9:c9.r=m.r:=by rw[hc9]
    have hx9:c9.xx=m.x:=by rw[hc9]
    have hb9:c9.bb=m.b:=by rw[hc9]
    clear hH9 hc9
    have e4:∀f:Fm,QdR m f=(!(m.map==f.map)||(!(f.w==-1)&&!(m.w==f.w))||!(m.l==f.l)||!(m.pre==f.pre)):=fun _=>rfl
    rw[e4,← x9]at hr1
    have no:QdR m c9.x.f=true→r=(4,c9):=fun h=>by rw[← e4,if_pos h]at hr1;exact hr1
    have c9at:=h9.at_
    have final:QdR m c9.x.f=false→∀ (e':Nat→Env→Qa→Prop) (kk:Env→Qa→Prop),(∀A3 H3,r=(0,c9)→QO H H3 b c9→kk A3 H3)→∀A2:Env,A2 0=.pointer (some ⟨b,0,none⟩)→A2 4=.pointer (some ⟨k,0,none⟩)→Qm prog Xs ⟨Rt prog Xc H (Z7 H b r.1 r.2),e'⟩ kk A2 H9:=by
      intro hno e' kk hkk A2 a0 a4
      rw[← e4,if_neg (by rw[hno];decide),← hr9,← hx9,← hb9]at hr1
      have qs:=WC c9.x 3 H9 (h9.fm.ext hw0 h9.hx)
      have qa:=fun(k':Nat) (hk':H9.next≤k')=>QfT b c9 (H9.up k') (h9.up hk').at_ (h9.fm.ext hw0 (h9.up hk').hx) (by rw[x9];exact hs)
      generalize QZ c9.x.f.slots 3=i3 at *
      generalize hal:Vh c9.x.f c9.r c9.xx c9.bb=al at *
      simp only[Xs,sxA,sxB,mxA,mxB,splice,simprocAttr,a4,gk,vx5]
      cases z6:m.v==0 with
      | true=>
        rw[z6]at hr1
        have qa0:=qa H9.next (Nat.le_refl _)
        rw[Qa.up_self]at qa0
        simp only[sxA,sxB,mxA,mxB,splice,simprocAttr,a0]
        refine qa0.thenW ?_
        rintro _ _ hn5 hw5 ⟨rfl,k5,rfl⟩
        have oc20:=oc19.up (show H9.next≤k5 from hn5)
        cases al with
        | false=>
          have hr2:r=(4,c9):=by rw[if_pos (by rfl)]at hr1;exact hr1
          simp only[sxA,sxB,mxA,mxB,splice,simprocAttr,Qo]
          exact .mk oc20.next ⟨by rw[hr2],by rw[hr2];exact oc20⟩
        | true=>
          have hr2:r=(0,c9):=by rw[if_neg (by simp)]at hr1;exact hr1
          simp only[sxA,sxB,mxA,mxB,splice,simprocAttr]
          exact hkk _ _ hr2 oc20
      | false=>
        rw[z6]at hr1
        simp only[sxA,sxB,mxA,mxB,splice,simprocAttr,a0,c9at,Wo,Xf]
        refine qs.thenW ?_
        rintro _ _ hn4 hw4 ⟨rfl,k4,rfl⟩
        have hk4:H9.next≤k4:=hn4
        cases z8:decide (i3<0) with
        | true=>
          rw[z8]at hr1
          have hr2:r=(4,c9):=by rw[if_pos (by rfl)]at hr1;exact hr1
          have oc20:=oc19.up hk4
          simp only[sxA,sxB,mxA,mxB,splice,simprocAttr,z8,Qo]
          exact .mk oc20.next ⟨by rw[hr2],by rw[hr2];exact oc20⟩
        | false=>
          rw[z8]at hr1
          simp only[sxA,sxB,mxA,mxB,splice,simprocAttr,z8,a0]
          refine(qa k4 hk4).thenW ?_
          rintro _ _ hn5 hw5 ⟨rfl,k5,rfl⟩
          have oc20:=(oc19.up hk4).up (show(H9.up k4).next≤k5 from hn5)
          cases al with
          | false=>
            have hr2:r=(4,c9):=by rw[if_pos (by rfl)]at hr1;exact hr1
            simp only[sxA,sxB,mxA,mxB,splice,simprocAttr,Qo]
            exact .mk oc20.next ⟨by rw[hr2],by rw[hr2];exact oc20⟩
          | true=>
            have hr2:r=(0,c9):=by rw[if_neg (by decide)]at hr1;exact hr1
            simp only[sxA,sxB,mxA,mxB,splice,simprocAttr]
            exact hkk _ _ hr2 oc20
    rw[e4]at no final
    cases z1:m.map==c9.x.f.map<;>cases z2:c9.x.f.w==-1<;>cases z3:m.w==c9.x.f.w<;>cases z4:m.l==c9.x.f.l<;>cases z5:m.pre==c9.x.f.pre<;>simp only[sxA,sxB,mxA,mxB,splice,simprocAttr,a0,gk,c9at,QxD,vx4,vx6,vx7,rr4,Qxb,rr9,rr3,z1,z2,z3,z4,z5,Qo]
    all_goals first
      | (have hr2:=no (by rw[z1,z2,z3,z4,z5];rfl)
         exact .mk oc19.next ⟨by rw[hr2],by rw[hr2];exact oc19⟩)
      | (refine final (by rw[z1,z2,z3,z4,z5];rfl) _ _ (fun A3 H3 hr2 oc3=>?_) _ ?_ ?_
         · simp only[sxA,sxB,mxA,mxB,splice,simprocAttr,Qo]
           exact .mk oc3.next ⟨by rw[hr2],by rw[hr2];exact oc3⟩
         · simp only[uxA,uxB,simprocAttr,a0]
         · simp only[uxA,uxB,simprocAttr])
def Qk1 (n:Int) (s:Nat):Int:=K4 (Yl (K3 n s) 1) 1
def Qaa (bs:List Int) (c:Rr):Rr:={c with r:=Qk1 (IntKind.i64.wrap (bs.getD 1 0)) 7,xx:=Qk1 (IntKind.i64.wrap (bs.getD 1 0)) 6,bb:=Qk1 (IntKind.i64.wrap (bs.getD 1 0)) 5}
def Vj (bs:List Int) (c:Rr):Int×Rr:=
 if bs.length=0 then(9,c)
 else if((bs.getD 0 0==197)&&(c.x.f.map==1)&&!(c.x.f.w==1))=true then QcQ bs c
 else if(bs.getD 0 0==196)=false then(4,c)
 else if bs.length<2 then(9,c)
 else if(!(Yl (IntKind.i64.wrap (bs.getD 1 0)) 31==c.x.f.map)||!Vh c.x.f (Qaa bs c).r (Qaa bs c).xx (Qaa bs c).bb)=true then(4,Qaa bs c)
 else QcQ bs (Qaa bs c)
theorem Qsh {H0:Qa} (b:Nat) (c:Rr) (bs:List Int) (H:Qa) (h:Zf H0 H b c bs) (hs:c.x.f.shapes.length=c.x.f.slots.length):Qf prog Yc [.pointer (some ⟨b,0,none⟩)] H (Z7 H b (Vj bs c).1 (Vj bs c).2):=by
  refine Qas fun hw=>?_
  obtain⟨r,hr⟩:∃r,r=Vj bs c:=⟨_,rfl⟩
  rw[← hr]
  have he:r=if bs.length=0 then(9,c)
    else if((bs.getD 0 0==197)&&(c.x.f.map==1)&&!(c.x.f.w==1))=true then QcQ bs c
    else if(bs.getD 0 0==196)=false then(4,c)
    else if bs.length<2 then(9,c)
    else if(!(Yl (IntKind.i64.wrap (bs.getD 1 0)) 31==c.x.f.map)||!Vh c.x.f (Qaa bs c).r (Qaa bs c).xx (Qaa bs c).bb)=true then(4,Qaa bs c)
    else QcQ bs (Qaa bs c):=hr
  clear hr
  obtain⟨hw0,hx,lo,hc,fm,by_,len,p0⟩:=id h
  obtain⟨a,cap,hbv,hby⟩:=id by_
  have hbv':∀c':Rr,c'.bv=c.bv→c'.cells[10]? = some (.slice a bs.length cap):=fun c' h=>by rw[Qjw,h,hbv]
  have hbvc:=hbv' c rfl
  have hb:b<H.next:=hw.lt hc
  have oc:=QO.refl hc
  simp only[Jy,sxA,sxB,Nat.reduceBEq,Nat.reduceEqDiff,reduceCtorEq,mxA,mxB,Nat.reduceAdd,reduceIte,Nat.reduceLeDiff,splice,hc,hbvc]
  by_cases g:bs.length=0
  · rw[if_pos g]at he
    have g':((bs.length:Int)==0)=true:=by rw[g];rfl
    simp only[g',sxA,sxB,Nat.reduceBEq,Nat.reduceEqDiff,reduceCtorEq,mxA,mxB,Nat.reduceAdd,reduceIte,Nat.reduceLeDiff,splice,Qo]
    exact .mk (Nat.le_refl _) ⟨by rw[he],by rw[he];exact oc⟩
  · rw[if_neg g]at he
    have g':((bs.length:Int)==0)=false:=by simp;intro e;rw[e]at g;exact g rfl
    obtain⟨bb,o,e,ro,cs,rfl,hg,hcs⟩:=hby (by omega)
    have hg':H.get bb=some (.cells cs e ro):=(hx.get bb (hw0.lt hg)).trans hg
    have c1:(0:Int)≤0∧(0:Int)<bs.length:=by omega
    have g1:cs[o]? = some (.int .u8 (bs.getD 0 0)):=hcs 0 (by omega)
    have t0:(0:Int).toNat=0:=rfl
    simp only[g',Zw,sxA,sxB,Nat.reduceBEq,Nat.reduceEqDiff,reduceCtorEq,mxA,mxB,Nat.reduceAdd,reduceIte,Nat.reduceLeDiff,splice,hc,hbvc,c1,hg',t0,g1]
    have tl:=fun(e':Nat→Env→Qa→Prop) (A:Env) (a0:A 0=.pointer (some ⟨b,0,none⟩)) (hr:r=QcQ bs c)=>Qpq b bs c r e' A H hw hw a0 h oc hb hs hr
    have sec:((bs.getD 0 0==197)&&(c.x.f.map==1)&&!(c.x.f.w==1))=false→∀ (e':Nat→Env→Qa→Prop) (kk:Env→Qa→Prop),(∀ (A3:Env) (H3:Qa),A3 0=.pointer (some ⟨b,0,none⟩)→H3.Wf→Zf H0 H3 b (Qaa bs c) bs→QO H H3 b (Qaa bs c)→r=QcQ bs (Qaa bs c)→kk A3 H3)→∀A2:Env,A2 0=.pointer (some ⟨b,0,none⟩)→Qm prog Xu ⟨Rt prog Xc H (Z7 H b r.1 r.2),e'⟩ kk A2 H:=by
      intro hno e' kk hkk A2 a0
      rw[if_neg (by rw[hno];decide)]at he
      simp only[Xu,sxA,sxB,Nat.reduceBEq,Nat.reduceEqDiff,reduceCtorEq,mxA,mxB,Nat.reduceAdd,reduceIte,Nat.reduceLeDiff,splice,a0,hc,hbvc,c1,hg',t0,g1]
      cases z4:bs.getD 0 0==196 with
      | false=>
        rw[if_pos z4]at he
        simp only[sxA,sxB,Nat.reduceBEq,Nat.reduceEqDiff,reduceCtorEq,mxA,mxB,Nat.reduceAdd,reduceIte,Nat.reduceLeDiff,splice,Qo]
        exact .mk (Nat.le_refl _) ⟨by rw[he],by rw[he];exact oc⟩
      | true=>
        rw[if_neg (by rw[z4];decide)]at he
        simp only[Zv,sxA,sxB,Nat.reduceBEq,Nat.reduceEqDiff,reduceCtorEq,mxA,mxB,Nat.reduceAdd,reduceIte,Nat.reduceLeDiff,splice,a0,hc,hbvc]
        by_cases g2:bs.length<2
        · rw[if_pos g2]at he
          have g3:(bs.length:Int)<2:=by omega
          simp only[g3,decide_true,sxA,sxB,Nat.reduceBEq,Nat.reduceEqDiff,reduceCtorEq,mxA,mxB,Nat.reduceAdd,reduceIte,Nat.reduceLeDiff,splice,Qo]
          exact .mk (Nat.le_refl _) ⟨by rw[he],by rw[he];exact oc⟩
        · rw[if_neg g2]at he
          have g3:¬ (bs.length:Int)<2:=by omega
          have c2:(0:Int)≤1∧(1:Int)<bs.length:=by omega
          have t1:(1:Int).toNat=1:=rfl
          have g4:=hcs 1 (by omega)
          have p3:Qaa bs c={c with r:=Qk1 (IntKind.i64.wrap (bs.getD 1 0)) 7,xx:=Qk1 (IntKind.i64.wrap (bs.getD 1 0)) 6,bb:=Qk1 (IntKind.i64.wrap (bs.getD 1 0)) 5}:=rfl
          have h7:(0:Int)≤7:=by omega
          have h6:(0:Int)≤6:=by omega
          have h5:(0:Int)≤5:=by omega
          generalize hn:IntKind.i64.wrap (bs.getD 1 0)=n at *
          have xb7:IntKind.i64.wrap (BitVec.ofInt IntKind.i64.bits (IntKind.i64.wrap (BitVec.ofInt IntKind.i64.bits (n.fdiv (2 ^ min (Int.toNat 7) IntKind.i64.bits)) &&& BitVec.ofInt IntKind.i64.bits 1).toNat) ^^^ BitVec.ofInt IntKind.i64.bits 1).toNat=Qk1 n 7:=rfl
          have xb6:IntKind.i64.wrap (BitVec.ofInt IntKind.i64.bits (IntKind.i64.wrap (BitVec.ofInt IntKind.i64.bits (n.fdiv (2 ^ min (Int.toNat 6) IntKind.i64.bits)) &&& BitVec.ofInt IntKind.i64.bits 1).toNat) ^^^ BitVec.ofInt IntKind.i64.bits 1).toNat=Qk1 n 6:=rfl
          have xb5:IntKind.i64.wrap (BitVec.ofInt IntKind.i64.bits (IntKind.i64.wrap (BitVec.ofInt IntKind.i64.bits (n.fdiv (2 ^ min (Int.toNat 5) IntKind.i64.bits)) &&& BitVec.ofInt IntKind.i64.bits 1).toNat) ^^^ BitVec.ofInt IntKind.i64.bits 1).toNat=Qk1 n 5:=rfl
          have hand:IntKind.i64.wrap (BitVec.ofInt IntKind.i64.bits n &&& BitVec.ofInt IntKind.i64.bits 31).toNat=Yl n 31:=rfl
          simp only[g3,decide_false,Zu,sxA,sxB,Nat.reduceBEq,Nat.reduceEqDiff,reduceCtorEq,mxA,mxB,Nat.reduceAdd,reduceIte,Nat.reduceLeDiff,splice,a0,hc,hbvc,c2,hg',t1,g4,hn,h7,h6,h5,xb7,xb6,xb5,hand,Wo,Qv1,Qv2,Qv3]
          rw[← p3]
          have x9:(Qaa bs c).x=c.x:=rfl
          have b9:(Qaa bs c).bv=c.bv:=rfl
          have q9:(Qaa bs c).p=c.p:=rfl
          clear p3
          generalize Qaa bs c=c9 at *
          generalize hH9:Qa.set _ b (.cells c9.cells QG false)=H9
          have oc9:QO H H9 b c9:=by
            rw[← hH9]
            exact((oc.set _).set _).set c9
          have h9:=h.only oc9 x9 b9 (by rw[q9];exact p0)
          have c9at:=h9.at_
          have qa:=QfT b c9 H9 c9at (h9.fm.ext hw0 h9.hx) (by rw[x9];exact hs)
          rw[← x9]at he
          simp only[sxA,sxB,Nat.reduceBEq,Nat.reduceEqDiff,reduceCtorEq,mxA,mxB,Nat.reduceAdd,reduceIte,Nat.reduceLeDiff,splice,rr4]
          cases z5:Yl n 31==c9.x.f.map with
          | false=>
            have hr2:r=(4,c9):=by rw[he,if_pos (by rw[z5];rfl)]
            simp only[sxA,sxB,Nat.reduceBEq,Nat.reduceEqDiff,reduceCtorEq,mxA,mxB,Nat.reduceAdd,reduceIte,Nat.reduceLeDiff,splice,Qo]
            exact .mk oc9.next ⟨by rw[hr2],by rw[hr2];exact oc9⟩
          | true=>
            simp only[sxA,sxB,Nat.reduceBEq,Nat.reduceEqDiff,reduceCtorEq,mxA,mxB,Nat.reduceAdd,reduceIte,Nat.reduceLeDiff,splice,a0]
            refine qa.thenW ?_
            rintro _ _ hn5 hw5 ⟨rfl,k5,rfl⟩
            have hk5:H9.next≤k5:=hn5
            have oc20:=oc9.up hk5
            cases z6:Vh c9.x.f c9.r c9.xx c9.bb with
            | false=>
              have hr2:r=(4,c9):=by rw[he,if_pos (by rw[z5,z6];rfl)]
              simp only[sxA,sxB,Nat.reduceBEq,Nat.reduceEqDiff,reduceCtorEq,mxA,mxB,Nat.reduceAdd,reduceIte,Nat.reduceLeDiff,splice,z6,Qo]
              exact .mk oc20.next ⟨by rw[hr2],by rw[hr2];exact oc20⟩
            | true=>
              have hr2:r=QcQ bs c9:=by rw[he,if_neg (by rw[z5,z6];decide)]
              simp only[sxA,sxB,Nat.reduceBEq,Nat.reduceEqDiff,reduceCtorEq,mxA,mxB,Nat.reduceAdd,reduceIte,Nat.reduceLeDiff,splice,z6]
              refine hkk _ _ ?_ hw5 (h9.up hk5) oc20 hr2
              simp only[uxA,uxB,Nat.reduceBEq,a0]
    cases z1:bs.getD 0 0==197<;>cases z2:c.x.f.map==1<;>cases z3:c.x.f.w==1<;>simp only[sxA,sxB,Nat.reduceBEq,Nat.reduceEqDiff,reduceCtorEq,mxA,mxB,Nat.reduceAdd,reduceIte,Nat.reduceLeDiff,splice,hc,rr4,Qxb,z2,z3]
    all_goals first
      | (rw[if_pos (by rw[z1,z2,z3];rfl)]at he
         refine tl _ _ ?_ he
         simp only[uxA,uxB,Nat.reduceBEq])
      | (refine sec (by rw[z1,z2,z3];rfl) _ _ (fun A3 H3 b0 bw brd boc bhr=>Qpq b bs (Qaa bs c) r _ A3 H3 hw bw b0 brd boc hb hs bhr) _ ?_
         simp only[uxA,uxB,Nat.reduceBEq])
def Wj (bs:List Int) (c:Rr):Int×Rr:=bif c.x.f.vex then Vj bs c else Ki bs c
theorem Qv8 {H0:Qa} (b:Nat) (c:Rr) (bs:List Int) (H:Qa) (h:Zf H0 H b c bs) (hs:c.x.f.shapes.length=c.x.f.slots.length):Qf prog XC [.pointer (some ⟨b,0,none⟩)] H (Z7 H b (Wj bs c).1 (Wj bs c).2):=by
 refine QbX fun hw=>?_
 have q1:=Qsh b c bs H h hs
 have q2:=Qsg b c bs H h hs
 have he:Wj bs c=bif c.x.f.vex then Vj bs c else Ki bs c:=rfl
 simp only[J3,sxA,sxB,Nat.reduceBEq,Nat.reduceEqDiff,reduceCtorEq,mxA,mxB,Nat.reduceAdd,reduceIte,Nat.reduceLeDiff,splice,h.at_,rr8]
 cases z:c.x.f.vex with
 | true=>
  rw[z]at he
  simp only[sxA,sxB,Nat.reduceBEq,Nat.reduceEqDiff,reduceCtorEq,mxA,mxB,Nat.reduceAdd,reduceIte,Nat.reduceLeDiff,splice]
  refine q1.thenW ?_
  rintro _ _ hn hw2 ⟨rfl,oc⟩
  simp only[sxA,sxB,Nat.reduceBEq,Nat.reduceEqDiff,reduceCtorEq,mxA,mxB,Nat.reduceAdd,reduceIte,Nat.reduceLeDiff,splice,JR]
  exact .mk oc.next ⟨by rw[he];rfl,by rw[he];exact oc⟩
 | false=>
  rw[z]at he
  simp only[sxA,sxB,Nat.reduceBEq,Nat.reduceEqDiff,reduceCtorEq,mxA,mxB,Nat.reduceAdd,reduceIte,Nat.reduceLeDiff,splice]
  refine q2.thenW ?_
  rintro _ _ hn hw2 ⟨rfl,oc⟩
  simp only[sxA,sxB,Nat.reduceBEq,Nat.reduceEqDiff,reduceCtorEq,mxA,mxB,Nat.reduceAdd,reduceIte,Nat.reduceLeDiff,splice,JR]
  exact .mk oc.next ⟨by rw[he];rfl,by rw[he];exact oc⟩
def rA (c:Rr) (s n:Int):Ar:=⟨1,⟨Qub c s n,n⟩,WK,0⟩
def nA (k n:Int):Ar:=⟨k,⟨0,0⟩,WK,n⟩
def Qsj (s:Int):Ar:=if s=28 then⟨1,⟨1,0⟩,WK,0⟩ else if s=29 then⟨1,⟨3,0⟩,WK,0⟩ else if s=30 then⟨1,⟨4,0⟩,WK,0⟩ else if s=31 then⟨1,⟨5,0⟩,WK,0⟩ else if s=32 then⟨1,⟨1,1⟩,WK,0⟩ else nA 3 1
theorem Qot (s:Int):Qt9 s=(Qsj s).cells:=by
 unfold Qt9 Qsj
 repeat' split
 all_goals rfl
theorem QcR (c:Rr) (s n:Int):Qmx (Qub c s n) n=(rA c s n).cells:=rfl
def opA (c:Rr) (s slot n is4:Int):Ar:=
 if(slot==1)=true then rA c s (IntKind.i64.wrap (IntKind.i64.wrap (8 * c.r)+c.seen.fld))
 else if(slot==3)=true then rA c s c.v
 else if(slot==4)=true then rA c s (IntKind.i64.wrap (IntKind.i64.wrap (8 * c.bb)+c.low))
 else if(slot==7)=true then rA c s is4
 else if(slot==6)=true then Qsj s
 else if(slot==2)=true then(if decide (0≤c.seen.reg)=true then rA c s c.seen.reg else⟨2,⟨0,0⟩,{c.seen.m with sz:=szF s},0⟩)
 else if(s==26||s==27)=true then nA 4 n else nA 3 n
theorem QxE (c:Rr):c.cells[16]? = some (.int .i64 c.v):=rfl
theorem QxF (c:Rr):c.cells[18]? = some (.int .i64 c.seen.fld):=rfl
theorem Qxc (c:Rr):c.cells[19]? = some (.int .i64 c.seen.reg):=rfl
theorem QxG (c:Rr):List.take 7 (List.drop 20 c.cells)=c.seen.m.cells:=rfl
theorem Qqz (b:Nat) (c:Rr) (s slot n is4:Int) (H:Qa) (hc:H.get b=some (.cells c.cells QG false)):Qf prog XY [.pointer (some ⟨b,0,none⟩),.int .i64 s,.int .i64 slot,.int .i64 n,.int .i64 is4] H (Qmy H (opA c s slot n is4).cells):=by
 refine V3 fun hw=>?_
 obtain⟨a,ha⟩:∃a,a=opA c s slot n is4:=⟨_,rfl⟩
 rw[← ha]
 have he:a=if(slot==1)=true then rA c s (IntKind.i64.wrap (IntKind.i64.wrap (8 * c.r)+c.seen.fld))
  else if(slot==3)=true then rA c s c.v
  else if(slot==4)=true then rA c s (IntKind.i64.wrap (IntKind.i64.wrap (8 * c.bb)+c.low))
  else if(slot==7)=true then rA c s is4
  else if(slot==6)=true then Qsj s
  else if(slot==2)=true then(if decide (0≤c.seen.reg)=true then rA c s c.seen.reg else⟨2,⟨0,0⟩,{c.seen.m with sz:=szF s},0⟩)
  else if(s==26||s==27)=true then nA 4 n else nA 3 n:=ha
 clear ha
 have hlt:=hw.lt hc
 have hne:(b=H.next)=False:=by simp;omega
 have hx1:=fun B=>(Ext.refl H).push B
 have gB:∀B,(H.push B).get b=some (.cells c.cells QG false):=fun B=>by rw[Qa.get_push,if_neg (by omega)];exact hc
 have qr:=fun m B=>Qoq b c s m (H.push B) (gB B)
 have al:∀a:Ar,(a.cells.all fun x=>x.oneCell')=true:=fun _=>rfl
 have len:∀a:Ar,a.cells.length=11:=fun _=>rfl
 have done:∀ (B:Blk) (k:Nat) (C:Blk),(H.push B).next≤k→Ret H (Qmy H a.cells) (.agg (List.take 11 a.cells).toArray) (((H.push B).up k).set H.next C):=fun B k C hk=>
  Ret.ext hw (((hx1 B).up hk).set (Nat.le_refl _) C) ⟨rfl,_,rfl⟩
 have done0:∀ (B C:Blk) (l:List Value),l=a.cells→Ret H (Qmy H a.cells) (.agg l.toArray) ((H.push B).set H.next C):=fun B C l e=>by
  rw[e]
  exact Ret.ext hw ((hx1 B).set (Nat.le_refl _) C) ⟨rfl,_,rfl⟩
 simp only[ZU,sxA,sxB,mxA,mxB,splice,simprocAttr]
 cases z1:slot==1 with
 | true=>
  rw[if_pos z1]at he
  simp only[YX,sxA,sxB,mxA,mxB,splice,simprocAttr,hne,hc,QgY,QxF]
  refine(qr _ _).thenW ?_
  rintro _ _ hn hw2 ⟨rfl,k,rfl⟩
  rw[QcR,← he]
  simp only[sxA,sxB,mxA,mxB,splice,simprocAttr,len,Qt]
  exact⟨rfl,done _ _ _ hn⟩
 | false=>
  rw[if_neg (by rw[z1];decide)]at he
  simp only[YJ,sxA,sxB,mxA,mxB,splice,simprocAttr]
  cases z3:slot==3 with
  | true=>
   rw[if_pos z3]at he
   simp only[sxA,sxB,mxA,mxB,splice,simprocAttr,hne,hc,QxE]
   refine(qr _ _).thenW ?_
   rintro _ _ hn hw2 ⟨rfl,k,rfl⟩
   rw[QcR,← he]
   simp only[sxA,sxB,mxA,mxB,splice,simprocAttr,len,Qt]
   exact⟨rfl,done _ _ _ hn⟩
  | false=>
   rw[if_neg (by rw[z3];decide)]at he
   simp only[Y4,sxA,sxB,mxA,mxB,splice,simprocAttr]
   cases z4:slot==4 with
   | true=>
    rw[if_pos z4]at he
    simp only[YY,sxA,sxB,mxA,mxB,splice,simprocAttr,hne,hc,QfS,Qw7]
    refine(qr _ _).thenW ?_
    rintro _ _ hn hw2 ⟨rfl,k,rfl⟩
    rw[QcR,← he]
    simp only[sxA,sxB,mxA,mxB,splice,simprocAttr,len,Qt]
    exact⟨rfl,done _ _ _ hn⟩
   | false=>
    rw[if_neg (by rw[z4];decide)]at he
    simp only[Y3,sxA,sxB,mxA,mxB,splice,simprocAttr]
    cases z7:slot==7 with
    | true=>
     rw[if_pos z7]at he
     simp only[sxA,sxB,mxA,mxB,splice,simprocAttr]
     refine(qr _ _).thenW ?_
     rintro _ _ hn hw2 ⟨rfl,k,rfl⟩
     rw[QcR,← he]
     simp only[sxA,sxB,mxA,mxB,splice,simprocAttr,len,Qt]
     exact⟨rfl,done _ _ _ hn⟩
    | false=>
     rw[if_neg (by rw[z7];decide)]at he
     simp only[Y2,sxA,sxB,mxA,mxB,splice,simprocAttr]
     cases z6:slot==6 with
     | true=>
      rw[if_pos z6]at he
      simp only[sxA,sxB,mxA,mxB,splice,simprocAttr]
      refine(Qua s _).thenW ?_
      rintro _ _ hn hw2 ⟨rfl,k,rfl⟩
      rw[Qot,← he]
      simp only[sxA,sxB,mxA,mxB,splice,simprocAttr,len,Qt]
      exact⟨rfl,done _ _ _ hn⟩
     | false=>
      rw[if_neg (by rw[z6];decide)]at he
      simp only[Y1,sxA,sxB,mxA,mxB,splice,simprocAttr]
      cases z2:slot==2 with
      | true=>
       rw[if_pos z2]at he
       simp only[Y0,sxA,sxB,mxA,mxB,splice,simprocAttr,hne,hc,Qxc]
       cases z8:decide (0≤c.seen.reg) with
       | true=>
        rw[if_pos z8]at he
        simp only[sxA,sxB,mxA,mxB,splice,simprocAttr,hne,hc,Qxc]
        refine(qr _ _).thenW ?_
        rintro _ _ hn hw2 ⟨rfl,k,rfl⟩
        rw[QcR,← he]
        simp only[sxA,sxB,mxA,mxB,splice,simprocAttr,len,Qt]
        exact⟨rfl,done _ _ _ hn⟩
       | false=>
        rw[if_neg (by rw[z8];decide)]at he
        simp only[YZ,sxA,sxB,mxA,mxB,splice,simprocAttr,hne,hc,Wo,QxG]
        refine⟨⟨rfl,Nat.le_refl _,rfl⟩,(K5 s _).thenW ?_⟩
        rintro _ _ hn hw2 ⟨rfl,rfl⟩
        have m1:∀m:Mm,m.cells++List.drop m.cells.length [Value.int .i64 0,.int .i64 0,.int .i64 0,.int .i64 0,.int .i64 0,.int .i64 0,.int .i64 0]=m.cells:=fun _=>rfl
        have m2:∀ (m:Mm) (z:Int),List.take 6 m.cells++(Value.int .i64 z::List.drop 7 m.cells)=({m with sz:=z}:Mm).cells:=fun _ _=>rfl
        have m3:∀m:Mm,m.cells.length=7:=fun _=>rfl
        have n1:(H.next=H.next+1)=False:=by simp
        have n2:(H.next+1=H.next)=False:=by simp
        simp only[sxA,sxB,mxA,mxB,splice,simprocAttr,m1,m2,m3,n1,n2,Qt]
        have m4:∀m:Mm,List.take 7 m.cells=m.cells:=fun _=>rfl
        have m5:∀m:Mm,Value.int .i64 2::.int .i64 0::.int .i64 0::(m.cells++List.drop (3+7) [Value.int .i64 2,.int .i64 0,.int .i64 0,.int .i64 0,.int .i64 0,.int .i64 0,.int .i64 0,.int .i64 0,.int .i64 0,.int .i64 0,.int .i64 0])=(Ar.mk 2 ⟨0,0⟩ m 0).cells:=fun _=>rfl
        simp only[m4,m3,m5,if_true,← he]
        simp only[sxA,sxB,mxA,mxB,splice,simprocAttr,n1,n2,len,Qt]
        exact⟨rfl,Ret.ext hw (((((hx1 _).push _).set (by omega) _).set (by omega) _).set (Nat.le_refl _) _) ⟨rfl,_,rfl⟩⟩
      | false=>
       rw[if_neg (by rw[z2];decide)]at he
       simp only[YW,sxA,sxB,mxA,mxB,splice,simprocAttr]
       cases z9:s==26<;>cases z10:s==27<;>simp only[sxA,sxB,mxA,mxB,splice,simprocAttr,z10,Qt]
       all_goals (rw[z9,z10]at he)
       all_goals exact done0 _ _ _ (by rw[he];rfl)
def tl0 (s:Int):Int:=if(s==20||s==21||s==26)=true then 1 else if(s==22)=true then 2 else if(s==23||s==24||s==27)=true then 4 else if(s==25)=true then 8 else 0
def tl1 (f:Fm):Int:=if(decide (0≤QZ f.slots 5)&&decide (QZ f.slots 5<f.shapes.length))=true then tl0 (f.shapes.getD (QZ f.slots 5).toNat 0) else 0
def tlF (f:Fm):Int:=bif decide (0≤QZ f.slots 7) then tl1 f+1 else tl1 f
theorem Qv9 (s:Int):0≤tl0 s∧tl0 s≤8:=by
 unfold tl0
 repeat' split
 all_goals decide
theorem Qou (f:Fm):0≤tl1 f∧tl1 f≤8:=by
 unfold tl1
 split
 ·exact Qv9 _
 ·decide
theorem Qk3 (x:Lf) (H:Qa) (hx:x.At H):Qf prog Qa3 [.agg x.cells.toArray] H fun u H'=>u=.int .i64 (tlF x.f)∧∃m,H'=H.up m:=by
 refine Qjj fun hw=>?_
 have ex:(Value.agg x.cells.toArray).cells.toList=x.cells:=rfl
 have hx0:Ext H (H.push (.cells x.cells Qc false)):=(Ext.refl H).push _
 have hg0:(H.push (.cells x.cells Qc false)).get H.next=some (.cells x.cells Qc false):=by rw[Qa.get_push,if_pos rfl]
 have hw0:=hw.push (.cells x.cells Qc false)
 obtain⟨l1,l2,h1,h2⟩:=hx.ext hw hx0
 obtain⟨a1,c1,e1,s1⟩:=h1
 have x1:x.cells[1]? = some (.slice a1 x.f.shapes.length c1):=by rw[← e1];rfl
 have qs:=WC x 5 _ (hx.ext hw hx0)
 have q7:=fun m (hm:(H.push (.cells x.cells Qc false)).next≤m)=>WC x 7 _ (hx.ext hw (hx0.up hm))
 have hs:tlF x.f=bif decide (0≤QZ x.f.slots 7) then tl1 x.f+1 else tl1 x.f:=rfl
 have hs1:tl1 x.f=if(decide (0≤QZ x.f.slots 5)&&decide (QZ x.f.slots 5<x.f.shapes.length))=true then tl0 (x.f.shapes.getD (QZ x.f.slots 5).toNat 0) else 0:=rfl
 have hle:=Qou x.f
 generalize tl1 x.f=n at *
 generalize tlF x.f=r at *
 generalize QZ x.f.slots 7=i7 at *
 simp only[Qdt,ex,sxA,sxB,mxA,mxB,splice,simprocAttr,Qp,QW,x1]
 generalize H.push (.cells x.cells Qc false)=H1 at *
 have last:∀ (A:Env) m,H1.next≤m→A 1=.pointer (some ⟨H.next,0,none⟩)→A 3=.int .i64 n→Qm prog KV ⟨Rt prog QeX H (fun u H'=>u=.int .i64 r∧∃m,H'=H.up m),Gw⟩ (Rt prog QeX H (fun u H'=>u=.int .i64 r∧∃m,H'=H.up m)) A (H1.up m):=by
  intro A m hm a1' a3
  simp only[KV,sxA,sxB,mxA,mxB,splice,simprocAttr,a1',a3,hg0,Qp,QW]
  refine(q7 m hm).thenW ?_
  rintro _ _ hn1 hw1 ⟨rfl,m2,rfl⟩
  have hx2:=(hx0.up hm).up hn1
  have en:IntKind.i64.wrap (n+1)=n+1:=w64 (by unfold I64;omega)
  cases z:decide (0≤i7) with
  | true=>
   rw[z]at hs
   simp only[sxA,sxB,mxA,mxB,splice,simprocAttr,z,a3,en,Qcv]
   exact .ext hw hx2 ⟨by rw[hs];rfl,_,rfl⟩
  | false=>
   rw[z]at hs
   simp only[sxA,sxB,mxA,mxB,splice,simprocAttr,z,a3,Qcv]
   exact .ext hw hx2 ⟨by rw[hs];rfl,_,rfl⟩
 refine qs.thenW ?_
 rintro _ _ hn1 hw1 ⟨rfl,m1,rfl⟩
 simp only[Qa.next_up]at hn1
 generalize QZ x.f.slots 5=i at *
 simp only[sxA,sxB,mxA,mxB,splice,simprocAttr,hg0,x1]
 refine Qr (fun h=>?_) (fun h=>?_)<;>simp only[sxA,sxB,mxA,mxB,splice,simprocAttr,hg0,x1,h]
 ·have h0:0≤i:=of_decide_eq_true h
  refine Qg (fun h'=>?_) (fun h'=>?_)<;>simp only[sxA,sxB,mxA,mxB,splice,simprocAttr,hg0,x1]
  ·have h1:i<x.f.shapes.length:=of_decide_eq_true h'
   obtain⟨b1,e1',ro1,rfl,hb1⟩:=s1 (by omega)
   have g1:=KG (l:=x.f.shapes) (i:=i.toNat) (by omega)
   rw[if_pos (by rw[h,h'];rfl)]at hs1
   generalize x.f.shapes.getD i.toNat 0=s at *
   have hs2:n=if(s==20||s==21||s==26)=true then 1 else if(s==22)=true then 2 else if(s==23||s==24||s==27)=true then 4 else if(s==25)=true then 8 else 0:=hs1
   clear hs1
   simp only[QbB,QbA,Qbz,Qby,Qbx,h0,h1,sxA,sxB,mxA,mxB,splice,simprocAttr,hg0,x1,hb1,g1]
   cases z1:s==20<;>cases z2:s==21<;>cases z3:s==26<;>cases z4:s==22<;>cases z5:s==23<;>cases z6:s==24<;>cases z7:s==27<;>cases z8:s==25<;>simp only[sxA,sxB,mxA,mxB,splice,simprocAttr,z1,z2,z3,z4,z5,z6,z7,z8]
   all_goals (rw[z1,z2,z3,z4,z5,z6,z7,z8]at hs2;refine last _ m1 hn1 ?_ ?_<;>simp only[uxA,uxB,simprocAttr,hs2])
   all_goals rfl
  ·rw[if_neg (by rw[h,h'];decide)]at hs1
   refine last _ m1 hn1 ?_ ?_<;>simp only[uxA,uxB,simprocAttr,hs1]
 ·rw[if_neg (by rw[h];simp)]at hs1
  refine last _ m1 hn1 ?_ ?_<;>simp only[uxA,uxB,simprocAttr,hs1]
def Qfd (H0 H:Qa) (v:Value) (ys:List Ar):Prop:=(v=.slice none 0 0∧ys=[])∨∃b,v=.slice (some ⟨b,0,none⟩) ys.length (UNK+11)∧H0.next≤b∧H.get b=some (.cells (Qs ys) Qe false)∧ys≠[]
theorem Qfd.app {H0 H:Qa} {v:Value} {ys:List Ar} {x:Ar} {b1:Nat} {K:Value→Qa→Prop} (h:Qfd H0 H v ys) (hn0:H0.next≤H.next) (hw:H.Wf) (hl:ys.length≤100000) (hb1:H.get b1=some (.cells x.cells Qe false)) (hne:∀a l c,v=.slice (some a) l c→a.block≠b1)
  (hK:∀v' H',H'.Wf→H.next≤H'.next→Qfd H0 H' v' (ys++[x])→(∀a l c,v'=.slice (some a) l c→H.next≤a.block)→(∀id,id<H0.next→H'.get id=H.get id)→K v' H'):Qh1 Qe 11 88 v (.slice (some ⟨b1,0,none⟩) 1 1) H K:=by
 have hsrc:QbU 11 (.slice (some ⟨b1,0,none⟩) 1 1) H=some (1,x.cells):=by
  have:=Qhl (size:=11) (m:=1) (b:=b1) (o:=0) (cap:=1) (c:=x.cells) (e:=Qe) (ro:=false) (H:=H) hb1 (by decide) (by rw[Q4];decide)
  rw[this];rfl
 have a1:x.cells.all (·.oneCell')=true:=rfl
 rcases id h with⟨rfl,rfl⟩ | ⟨b,rfl,hb0,hgb,hyn⟩
 ·refine Qh6 hsrc a1 (by decide) (by decide) (by decide) ?_
  have hk:∀id,id<H0.next→(H.push (.cells x.cells Qe false)).get id=H.get id:=fun id hid=>by
   rw[Qa.get_push,if_neg (by omega)]
  exact hK _ _ (hw.push _) (by simp) (.inr ⟨H.next,rfl,hn0,by rw[Qa.get_push,if_pos rfl];simp[Qs],by simp⟩) (fun a l c e=>by cases e;exact Nat.le_refl _) hk
 ·have hbl:=hw.lt hgb
  have hbn:b≠b1:=hne _ _ _ rfl
  refine Qh5 rfl hsrc a1 (by decide) (c:=Qs ys) hgb (by rw[WY];omega) (by omega) (by omega) (by unfold UNK;omega) ?_
  have hk:∀id,id<H0.next→((H.kill b).push (.cells (Qs ys++x.cells) Qe false)).get id=H.get id:=fun id hid=>by
   rw[Qa.get_push,if_neg (by simp;omega),Qa.get_kill,if_neg (by omega)]
  have:=hK (.slice (some ⟨H.next,0,none⟩) (ys.length+1) (UNK+11)) ((H.kill b).push (.cells (Qs ys++x.cells) Qe false)) ((hw.kill _).push _) (by simp)
   (.inr ⟨H.next,by simp,hn0,by rw[Qa.get_push,if_pos (by simp),Qmz],by simp⟩) (fun a l c e=>by cases e;exact Nat.le_refl _) hk
  exact this
theorem Qfd.at {H0 H:Qa} {v:Value} {ys:List Ar} (h:Qfd H0 H v ys):Yv H v ys:=by
 rcases h with⟨rfl,rfl⟩ | ⟨b,rfl,_,hg,_⟩
 ·exact⟨none,0,rfl,fun h=>absurd h (Nat.lt_irrefl 0)⟩
 ·exact⟨_,_,rfl,fun _=>⟨b,_,_,rfl,hg⟩⟩
def opL (c:Rr) (n is4:Int):List Ar:=(List.range c.x.f.shapes.length).map fun k=>opA c (c.x.f.shapes.getD k 0) (c.x.f.slots.getD k 0) n is4
theorem Qsm (c:Rr) (n is4:Int) (k:Nat) (h:k<c.x.f.shapes.length):(opL c n is4).take (k+1)=(opL c n is4).take k++[opA c (c.x.f.shapes.getD k 0) (c.x.f.slots.getD k 0) n is4]:=by
 unfold opL
 rw[← List.map_take,← List.map_take,List.take_range,List.take_range,Nat.min_eq_left (by omega),Nat.min_eq_left (by omega),List.range_succ,List.map_append]
 rfl
theorem Qfd.below {H0 H:Qa} {v:Value} {ys:List Ar} (h:Qfd H0 H v ys) (hw:H.Wf):QK H.next 6 v=true:=by
 rcases h with⟨rfl,rfl⟩ | ⟨b,rfl,_,hg,_⟩
 ·rfl
 ·have:=hw.lt hg
  show Nat.ble (b+1) H.next=true
  exact Nat.ble_eq▸this
theorem Qfd.ext {H0 H H':Qa} {v:Value} {ys:List Ar} (h:Qfd H0 H v ys) (hw:H.Wf) (hx:Ext H H'):Qfd H0 H' v ys:=by
 rcases h with h | ⟨b,h1,h2,h3,h4⟩
 ·exact .inl h
 ·exact .inr ⟨b,h1,h2,by rw[hx.get b (hw.lt h3)];exact h3,h4⟩
theorem Qfd.put {H0 H:Qa} {v:Value} {ys:List Ar} (h:Qfd H0 H v ys) {i:Nat} (hne:∀a l c,v=.slice (some a) l c→i≠a.block) (B:Blk):Qfd H0 (H.set i B) v ys:=by
 rcases h with h | ⟨b,rfl,h2,h3,h4⟩
 ·exact .inl h
 ·exact .inr ⟨b,rfl,h2,by rw[Qa.get_set,if_neg (fun e=>hne _ _ _ rfl e.symm)];exact h3,h4⟩
theorem QO.same {H H1 H5 H6:Qa} {b:Nat} {c:Rr} (h:QO H H5 b c) (hn:H5.next≤H6.next) (h1:H.next≤H1.next) (hb:b<H1.next) (hs:∀id,id<H1.next→H6.get id=H5.get id):QO H H6 b c:=
 ⟨Nat.le_trans h.next hn,fun id hid hne=>by rw[hs id (by omega)];exact h.get id hid hne,by rw[hs b hb];exact h.at_⟩
theorem Zf.same {H0 H1 H5 H6:Qa} {b:Nat} {c:Rr} {bs:List Int} (h:Zf H0 H5 b c bs) (hn:H5.next≤H6.next) (h1:H0.next≤H1.next) (hb:b<H1.next) (hs:∀id,id<H1.next→H6.get id=H5.get id):Zf H0 H6 b c bs:=
 ⟨h.wf,⟨Nat.le_trans h.hx.next hn,fun id hid=>by rw[hs id (by omega)];exact h.hx.get id hid⟩,h.lo,by rw[hs b hb];exact h.at_,h.fm,h.by_,h.len,h.p0⟩
theorem Qul {H0 H H1:Qa} (b bt bi:Nat) (c:Rr) (bs:List Int) (n is4:Int) (A:Env) (ks:Kp) (k:Env→Qa→Prop) (hw1:H1.Wf) (hrd:Zf H0 H1 b c bs) (oc:QO H H1 b c) (hb:b<H.next) (hbt:H.next≤bt) (hbi:H.next≤bi) (hti:bt≠bi) (hs:c.x.f.shapes.length=c.x.f.slots.length)
  (a0:A 0=.pointer (some ⟨b,0,none⟩)) (a2:A 2=.pointer (some ⟨bt,0,none⟩)) (a6:A 6=.int .i64 is4) (a7:A 7=.int .i64 n) (a9:A 9=.pointer (some ⟨bi,0,none⟩))
  (gt:H1.get bt=some (.cells [.int .i64 0,.slice none 0 0] Qb false)) (gi:H1.get bi=some (.cells [.int .i64 c.x.f.op,.slice none 0 0] Qb false))
  (hk:∀ (A':Env) (H':Qa) (v:Value),H'.Wf→A' 0=.pointer (some ⟨b,0,none⟩)→A' 2=.pointer (some ⟨bt,0,none⟩)→A' 9=.pointer (some ⟨bi,0,none⟩)→Zf H0 H' b c bs→QO H H' b c→H'.get bt=some (.cells [.int .i64 0,.slice none 0 0] Qb false)→H'.get bi=some (.cells [.int .i64 c.x.f.op,v] Qb false)→Yv H' v (opL c n is4)→k A' H'):
  Qm prog (.seq (.ops [⟨some 109,.mv (t 0),none,false⟩,⟨some 110,.gen (.nilCheck (t 109)),none,false⟩,⟨some 111,.fldA 0 (t 110),none,false⟩,⟨some 112,.fldA 1 (t 111),none,false⟩,⟨some 113,.ld false 1 (t 112),none,false⟩,⟨some 114,.lenS (t 113),none,false⟩,⟨some 115,.mv (.const (.int .i64 0)),none,false⟩]) (.block 0 (.loop W9))) ks k A H1:=by
 obtain⟨sa,sc,se,ss⟩:=id hrd.fm.2.2.1
 obtain⟨ta,tc,te,ts⟩:=id hrd.fm.2.2.2
 have hsv:c.cells[1]? = some (.slice sa c.x.f.shapes.length sc):=by rw[rr1,se]
 have htv:c.cells[2]? = some (.slice ta c.x.f.slots.length tc):=by rw[← te];rfl
 have hsl:=hrd.fm.1
 simp only[sxA,sxB,mxA,mxB,splice,simprocAttr,a0,hrd.at_,hsv]
 refine QX (fun m A' H'=>∃ (i:Nat) (v:Value),i≤c.x.f.shapes.length∧m=c.x.f.shapes.length - i∧A' 0=.pointer (some ⟨b,0,none⟩)∧A' 2=.pointer (some ⟨bt,0,none⟩)∧A' 6=.int .i64 is4∧A' 7=.int .i64 n∧A' 9=.pointer (some ⟨bi,0,none⟩)∧
   A' 113=.slice sa c.x.f.shapes.length sc∧A' 114=.int .i64 c.x.f.shapes.length∧A' 115=.int .i64 i∧H'.Wf∧H1.next≤H'.next∧Zf H0 H' b c bs∧QO H H' b c∧H'.get bt=some (.cells [.int .i64 0,.slice none 0 0] Qb false)∧H'.get bi=some (.cells [.int .i64 c.x.f.op,v] Qb false)∧Qfd H1 H' v ((opL c n is4).take i)) c.x.f.shapes.length ?_ ?_
 ·refine⟨0,.slice none 0 0,Nat.zero_le _,by omega,?_,?_,?_,?_,?_,?_,?_,?_,hw1,Nat.le_refl _,hrd,oc,gt,gi,.inl ⟨rfl,rfl⟩⟩
  all_goals simp only[uxA,uxB,simprocAttr,a0,a2,a6,a7,a9]
  all_goals rfl
 ·rintro m A' H' ⟨i,v,hi,rfl,r0,r2,r6,r7,r9,r113,r114,r115,hw',hn',hrd',oc',gt',gi',hacc⟩
  simp only[W9,sxA,sxB,mxA,mxB,splice,simprocAttr,r114,r115]
  by_cases h3:i<c.x.f.shapes.length
  ·have h3':(i:Int)<c.x.f.shapes.length:=by omega
   have htk:=Qsm c n is4 i h3
   obtain⟨b1,e1,ro1,rfl,hb1⟩:=ss (by omega)
   obtain⟨b2,e2,ro2,rfl,hb2⟩:=ts (by omega)
   have hb1':H'.get b1=some (.cells (ints c.x.f.shapes) e1 ro1):=(hrd'.hx.get b1 (hrd'.wf.lt hb1)).trans hb1
   have hb2':H'.get b2=some (.cells (ints c.x.f.slots) e2 ro2):=(hrd'.hx.get b2 (hrd'.wf.lt hb2)).trans hb2
   have d1:(0:Int)≤i∧(i:Int)<c.x.f.shapes.length:=by omega
   have d2:(0:Int)≤i∧(i:Int)<c.x.f.slots.length:=by omega
   have d3:(i:Int).toNat=i:=by omega
   have g1:=KG (l:=c.x.f.shapes) (i:=i) (by omega)
   have g2:=KG (l:=c.x.f.slots) (i:=i) (by omega)
   generalize c.x.f.shapes.getD i 0=s at *
   generalize c.x.f.slots.getD i 0=sl at *
   have ei:IntKind.i64.wrap ((i:Int)+1)=((i+1:Nat):Int):=by rw[w64 (by unfold I64;omega)];omega
   simp only[h3',decide_true,YG,sxA,sxB,mxA,mxB,splice,simprocAttr,r0,r6,r7,r9,r113,r115,d1,d2,d3,hb1',g1,gi',hrd'.at_,htv,hb2',g2]
   refine⟨hacc.below hw',?_⟩
   refine(Qqz b c s sl n is4 H' hrd'.at_).thenW ?_
   rintro _ _ hn4 hw4 ⟨rfl,k4,rfl⟩
   have hk4:H'.next≤k4:=hn4
   have hx4:Ext H' (H'.up k4):=(Ext.refl H').up hk4
   have ha4:=hacc.ext hw' hx4
   have hrd4:=hrd'.up hk4
   have oc4:=oc'.up hk4
   have gt4:(H'.up k4).get bt=some (.cells [.int .i64 0,.slice none 0 0] Qb false):=by rw[Qa.get_up];exact gt'
   have gi4:(H'.up k4).get bi=some (.cells [.int .i64 c.x.f.op,v] Qb false):=by rw[Qa.get_up];exact gi'
   have hm4:H1.next≤(H'.up k4).next:=Nat.le_trans hn' hk4
   refine⟨hx4.eqB,?_⟩
   generalize H'.up k4=H4 at *
   generalize opA c s sl n is4=x at *
   have tk:List.take 11 x.cells=x.cells:=rfl
   have xl:x.cells.length=11:=rfl
   simp only[sxA,sxB,mxA,mxB,splice,simprocAttr,r0,r2,r6,r7,r9,xl,tk]
   have hx5:Ext H4 (H4.push (.cells x.cells Qe false)):=(Ext.refl H4).push _
   have hw5:=hw4.push (.cells x.cells Qe false)
   have hrd5:=hrd4.only ((QO.refl hrd4.at_).ext (hw4.lt hrd4.at_) hx5) rfl rfl hrd4.p0
   have oc5:=oc4.ext hb hx5
   have gt5:=(hx5.get _ (hw4.lt gt4)).trans gt4
   have gi5:=(hx5.get _ (hw4.lt gi4)).trans gi4
   have ha5:=ha4.ext hw4 hx5
   have hH1:H.next≤H1.next:=oc.next
   have hH0:H0.next≤H1.next:=hrd.hx.next
   have hlo:=hrd.lo
   have hbt1:=hw1.lt gt
   have hbi1:=hw1.lt gi
   have hb1':b<H1.next:=by omega
   have hlen:((opL c n is4).take i).length≤100000:=by rw[List.length_take];omega
   have hbl:=ha4.below hw4
   have hn5:H1.next≤(H4.push (.cells x.cells Qe false)).next:=by simp only[Qa.next_push];omega
   refine ha5.app hn5 hw5 hlen (b1:=H4.next) (by rw[Qa.get_push,if_pos rfl]) (fun a l cc e=>?_) ?_
   ·rcases ha4 with⟨e2,_⟩ | ⟨b4,e2,_,hg4,_⟩
    ·rw[e2]at e;cases e
    ·rw[e2]at e;cases e
     have:=hw4.lt hg4
     show b4≠H4.next
     omega
   ·intro v' H6 hw6 hn6 ha6 hfr hsame
    have hrd6:=hrd5.same hn6 hH0 hb1' hsame
    have oc6:=oc5.same hn6 hH1 hb1' hsame
    have gt6:=(hsame bt hbt1).trans gt5
    have gi6:=(hsame bi hbi1).trans gi5
    have hbib:bi≠b:=by omega
    rw[← htk]at ha6
    obtain⟨a',l',cc',rfl⟩:∃a' l' cc',v'=.slice a' l' cc':=by
     rcases ha6 with⟨rfl,_⟩ | ⟨b6,rfl,_⟩
     ·exact⟨_,_,_,rfl⟩
     ·exact⟨_,_,_,rfl⟩
    simp only[sxA,sxB,mxA,mxB,splice,simprocAttr,r0,r2,r6,r7,r9,gi6,r115,ei]
    refine⟨_,?_,i+1,_,h3,rfl,?_,?_,?_,?_,?_,?_,?_,?_,hw6.set gi6 _,?_,hrd6.put (by omega) hbib _,oc6.put hbi hbib _,?_,?_,ha6.put (fun a l cc e=>?_) _⟩
    ·omega
    all_goals (try simp only[uxA,uxB,simprocAttr,r0,r2,r6,r7,r9,r113,r114])
    ·exact Nat.le_trans hn5 hn6
    ·rw[Qa.get_set,if_neg hti];exact gt6
    ·rw[Qa.get_set,if_pos rfl]
    ·have:=hfr a l cc e
     omega
  ·have h3':¬ (i:Int)<c.x.f.shapes.length:=by omega
   obtain rfl:i=c.x.f.shapes.length:=by omega
   simp only[h3',decide_false,sxA,sxB,mxA,mxB,splice,simprocAttr]
   have hall:(opL c n is4).take c.x.f.shapes.length=opL c n is4:=List.take_of_length_le (by unfold opL;rw[List.length_map,List.length_range];exact Nat.le_refl _)
   rw[hall]at hacc
   refine hk _ H' v hw' ?_ ?_ ?_ hrd' oc' gt' gi' hacc.at
   all_goals simp only[uxA,uxB,simprocAttr,r0,r2,r9]
structure Dr where
 op:Int
 l:List Ar
 n:Int
 e:Int
def Qab (e:Int):Dr:=⟨0,[],0,e⟩
def QcT (H:Qa) (b:Nat) (r:Dr):Value→Qa→Prop:=fun u H'=>
 H.next≤H'.next∧(∀id,id<H.next→id≠b→H'.get id=H.get id)∧∃v',u=.tuple #[.agg #[.int .i64 r.op,v'],.int .i64 r.n,.int .i64 r.e]∧Yv H' v' r.l∧∀a n c,v'=.slice (some a) n c→H.next≤a.block
theorem QcT.err {H H':Qa} {b:Nat} {c:Rr} {r:Dr} {e:Int} (oc:QO H H' b c) (h:r=Qab e):QcT H b r (.tuple #[.agg #[.int .i64 0,.slice none 0 0],.int .i64 0,.int .i64 e]) H':=by
 subst h
 exact⟨oc.next,oc.get,_,rfl,⟨none,0,rfl,fun h=>absurd h (Nat.lt_irrefl 0)⟩,fun a n c h=>by cases h⟩
def QmE (op p:Int) (l:List Ar):Dr:=if((XQ op l).2.2==0)=false then Qab 4 else⟨(XQ op l).1,(XQ op l).2.1,p,0⟩
theorem Qwb {H0 H H1:Qa} (b bt bi:Nat) (c:Rr) (bs:List Int) (op:Int) (l:List Ar) (v:Value) (r:Dr) (A:Env) (e:Nat→Env→Qa→Prop) (hw:H.Wf) (hw1:H1.Wf) (hrd:Zf H0 H1 b c bs) (oc:QO H H1 b c) (hb:b<H.next) (hbt:H.next≤bt) (hbi:H.next≤bi) (hti:bt≠bi)
  (a0:A 0=.pointer (some ⟨b,0,none⟩)) (a2:A 2=.pointer (some ⟨bt,0,none⟩)) (a9:A 9=.pointer (some ⟨bi,0,none⟩))
  (gt:H1.get bt=some (.cells [.int .i64 0,.slice none 0 0] Qb false)) (gi:H1.get bi=some (.cells [.int .i64 op,v] Qb false)) (hv:Yv H1 v l) (hl:l.length≤1000) (hI:∀a∈l,I64 a.n) (hr:r=QmE op c.p l):
  Qm prog Wv ⟨Rt prog QE H (QcT H b r),e⟩ (Rt prog QE H (QcT H b r)) A H1:=by
 obtain⟨va,vc,rfl,_⟩:=id hv
 have hr1:r=if((XQ op l).2.2==0)=false then Qab 4 else⟨(XQ op l).1,(XQ op l).2.1,c.p,0⟩:=hr
 clear hr
 simp only[Wv,sxA,sxB,mxA,mxB,splice,simprocAttr,a9,gi]
 refine(Qk9 op l H1 _ hv hl hI).thenW ?_
 rintro _ H2 hn2 hw2 ⟨hx2,v',rfl,hv',hfr⟩
 have oc2:=oc.ext hb hx2
 have gt2:=(hx2.get _ (hw1.lt gt)).trans gt
 have hrd2:=hrd.only ((QO.refl hrd.at_).ext (hw1.lt hrd.at_) hx2) rfl rfl hrd.p0
 generalize XQ op l=w at *
 obtain⟨va',vc',rfl,hv2⟩:=id hv'
 simp only[sxA,sxB,mxA,mxB,splice,simprocAttr,a2]
 have hbt2:=hw2.lt gt2
 have hbb:b<H2.next:=Nat.lt_of_lt_of_le hb oc2.next
 have hne:(b=H2.next)=False:=by simp;omega
 have hne2:(bt=H2.next)=False:=by simp;omega
 have hne3:(bt=b)=False:=by simp;omega
 have hne4:(b=bt)=False:=by simp;omega
 have hoc:=fun B C D=>(oc2.ext hb (((Ext.refl H2).push B).set (i:=H2.next) (Nat.le_refl _) C)).put (i:=bt) hbt (by omega) D
 have hnx:=hx2.next
 have hH1:=oc.next
 cases z:w.2.2==0 with
 | false=>
  rw[if_pos z]at hr1
  simp only[sxA,sxB,mxA,mxB,splice,simprocAttr,z,a2,gt2,hne,hne2,hne3,hne4,Wc]
  exact .mk (hoc _ _ _).next (.err (hoc _ _ _) hr1)
 | true=>
  rw[if_neg (by rw[z];decide)]at hr1
  simp only[sxA,sxB,mxA,mxB,splice,simprocAttr,z,a0,a2,gt2,hne,hne2,hne3,hne4,hrd2.at_,QcO,Wc]
  have hbt1:=hw1.lt gt
  refine⟨rfl,.mk (hoc _ _ _).next ⟨(hoc _ _ _).next,(hoc _ _ _).get,_,by rw[hr1],?_,fun a n cc h=>?_⟩⟩
  ·rw[hr1]
   refine⟨va',vc',rfl,fun h=>?_⟩
   obtain⟨b2,e2,ro2,rfl,hg⟩:=hv2 h
   have h1:=hfr _ _ _ rfl
   have h2:=hw2.lt hg
   simp only at h1
   exact⟨b2,e2,ro2,rfl,by rw[Qa.get_set,if_neg (by omega),Qa.get_set,if_neg (by omega),Qa.get_push,if_neg (by omega)];exact hg⟩
  ·have:=hfr a n cc h
   omega
theorem QmF (x:Int):I64 (IntKind.i64.wrap x):=Qir x
theorem Qst (y:Int) (k:Nat) (h:I64 y):I64 (y.fdiv (2 ^ k)):=by
 have hd:(1:Int)≤2 ^ k:=by
  have:=Int.pow_pos (n:=2) (m:=k) (by decide)
  omega
 generalize (2:Int) ^ k=d at *
 rw[Int.fdiv_eq_ediv_of_nonneg _ (by omega)]
 by_cases hy:0≤y
 ·have h1:=Int.ediv_nonneg hy (show(0:Int)≤d by omega)
  have h2:=Int.ediv_le_self d hy
  unfold I64 at *
  omega
 ·have h1:=Int.ediv_neg_of_neg_of_pos (show y<0 by omega) (show(0:Int)<d by omega)
  have h2:y≤y / d:=(Int.le_ediv_iff_mul_le (by omega)).2 (by
   have:=Int.mul_le_mul_of_nonpos_left (a:=y) (show y≤0 by omega) hd
   omega)
  unfold I64 at *
  omega
theorem QqH (x b:Int):I64 (Qin x b):=by
 unfold Qin
 split
 ·unfold I64;omega
 ·exact Qst _ _ (QmF _)
theorem Qsu (bs:List Int) (p sz:Int) (sg:Bool):I64 (Xw bs p sz sg).1:=by
 have z:I64 0:=by unfold I64;omega
 unfold Xw
 repeat' split
 all_goals first
  | exact z
  | exact QqH _ _
  | exact QmF _
theorem Qla (bs:List Int) (p sz:Int) (sg:Bool) (h:((Xw bs p sz sg).2==0)=true):0≤p∧p+sz≤bs.length:=by
 unfold Xw at h
 split at h
 ·simp at h
 ·split at h
  ·simp at h
  ·rename_i h2
   split at h
   ·simp at h
   ·simp only[Bool.or_eq_true,decide_eq_true_eq,not_or,Int.not_lt]at h2
    omega
theorem Qun (c:Rr) (n is4:Int) (h:I64 n):∀a∈opL c n is4,I64 a.n:=by
 have z:I64 0:=by unfold I64;omega
 have o:I64 1:=by unfold I64;omega
 intro a ha
 unfold opL at ha
 rw[List.mem_map]at ha
 obtain⟨k,_,rfl⟩:=ha
 unfold opA Qsj
 repeat' split
 all_goals first
  | exact h
  | exact z
  | exact o
theorem Qxd {H0 H H1:Qa} (b bt:Nat) (c:Rr) (bs:List Int) (n is4:Int) (r:Dr) (A:Env) (e:Nat→Env→Qa→Prop) (hw:H.Wf) (hw1:H1.Wf) (hrd:Zf H0 H1 b c bs) (oc:QO H H1 b c) (hb:b<H.next) (hbt:H.next≤bt) (hs:c.x.f.shapes.length=c.x.f.slots.length) (hn:I64 n)
  (a0:A 0=.pointer (some ⟨b,0,none⟩)) (a2:A 2=.pointer (some ⟨bt,0,none⟩)) (a6:A 6=.int .i64 is4) (a7:A 7=.int .i64 n)
  (gt:H1.get bt=some (.cells [.int .i64 0,.slice none 0 0] Qb false)) (hr:r=QmE c.x.f.op c.p (opL c n is4)):
  Qm prog Q7 ⟨Rt prog QE H (QcT H b r),e⟩ (Rt prog QE H (QcT H b r)) A H1:=by
 have rr0:c.cells[0]? = some (.int .i64 c.x.f.op):=rfl
 have hbt1:=hw1.lt gt
 have hH1:=oc.next
 rw[Q7]
 rw[Ym]
 generalize hK:Qm prog (PC.seq _ Wv) _ _=K
 simp only[sxA,sxB,mxA,mxB,splice,simprocAttr,a0,hrd.at_,rr0]
 have hx2:Ext H1 ((H1.push (.cells [.int .i64 0,.slice none 0 0] Qb false)).set H1.next (.cells [.int .i64 c.x.f.op,.slice none 0 0] Qb false)):=((Ext.refl H1).push _).set (Nat.le_refl _) _
 have hw2:((H1.push (.cells [.int .i64 0,.slice none 0 0] Qb false)).set H1.next (.cells [.int .i64 c.x.f.op,.slice none 0 0] Qb false)).Wf:=(hw1.push _).set (by rw[Qa.get_push,if_pos rfl]) _
 have gi2:((H1.push (.cells [.int .i64 0,.slice none 0 0] Qb false)).set H1.next (.cells [.int .i64 c.x.f.op,.slice none 0 0] Qb false)).get H1.next=some (.cells [.int .i64 c.x.f.op,.slice none 0 0] Qb false):=by rw[Qa.get_set,if_pos rfl]
 generalize (H1.push (.cells [.int .i64 0,.slice none 0 0] Qb false)).set H1.next (.cells [.int .i64 c.x.f.op,.slice none 0 0] Qb false)=H2 at *
 have hrd2:=hrd.only ((QO.refl hrd.at_).ext (hw1.lt hrd.at_) hx2) rfl rfl hrd.p0
 have oc2:=oc.ext hb hx2
 have gt2:=(hx2.get _ hbt1).trans gt
 have hsl:=hrd.fm.1
 rw[← hK,Ym]
 refine Qul b bt H1.next c bs n is4 _ _ _ hw2 hrd2 oc2 hb hbt hH1 (by omega) hs ?_ ?_ ?_ ?_ ?_ gt2 gi2 ?_
 ·simp only[uxA,uxB,simprocAttr,a0]
 ·simp only[uxA,uxB,simprocAttr,a2]
 ·simp only[uxA,uxB,simprocAttr,a6]
 ·simp only[uxA,uxB,simprocAttr,a7]
 ·simp only[uxA,uxB,simprocAttr]
 ·intro A' H' v hw' r0 r2 r9 hrd' oc' gt' gi' hv'
  exact Qwb b bt H1.next c bs c.x.f.op (opL c n is4) v r A' e hw hw' hrd' oc' hb hbt hH1 (by omega) r0 r2 r9 gt' gi' hv' (by unfold opL;rw[List.length_map,List.length_range];exact hsl) (Qun c n is4 hn) hr
def Qpr (bs:List Int) (p:Int):Int:=IntKind.u8.wrap (BitVec.ofInt IntKind.u8.bits (bs.getD p.toNat 0) &&& BitVec.ofInt IntKind.u8.bits 15).toNat
def hi4 (bs:List Int) (p:Int):Int:=IntKind.i64.wrap ((bs.getD p.toNat 0).fdiv (2 ^ (min (Int.toNat 4) IntKind.u8.bits)))
def Qoz (bs:List Int) (c:Rr) (n:Int):Dr:=
  if decide (0≤QZ c.x.f.slots 7)=true then
    (if(bs.length:Int)≤c.p then Qab 9
     else if(Qpr bs c.p==0)=false then Qab 4
     else QmE c.x.f.op (IntKind.i64.wrap (c.p+1)) (opL c n (hi4 bs c.p)))
  else QmE c.x.f.op c.p (opL c n 0)
theorem Qxe {H0 H H1:Qa} (b bt:Nat) (c:Rr) (bs:List Int) (n:Int) (r:Dr) (A:Env) (e:Nat→Env→Qa→Prop) (hw:H.Wf) (hw1:H1.Wf) (hrd:Zf H0 H1 b c bs) (oc:QO H H1 b c) (hb:b<H.next) (hbt:H.next≤bt) (hs:c.x.f.shapes.length=c.x.f.slots.length) (hn:I64 n)
    (a0:A 0=.pointer (some ⟨b,0,none⟩)) (a2:A 2=.pointer (some ⟨bt,0,none⟩)) (a6:A 6=.int .i64 0) (a7:A 7=.int .i64 n)
    (gt:H1.get bt=some (.cells [.int .i64 0,.slice none 0 0] Qb false)) (hr:r=Qoz bs c n):
    Qm prog Q8 ⟨Rt prog QE H (QcT H b r),e⟩ (Rt prog QE H (QcT H b r)) A H1:=by
  have hr1:r=if decide (0≤QZ c.x.f.slots 7)=true then
    (if(bs.length:Int)≤c.p then Qab 9
     else if(Qpr bs c.p==0)=false then Qab 4
     else QmE c.x.f.op (IntKind.i64.wrap (c.p+1)) (opL c n (hi4 bs c.p)))
    else QmE c.x.f.op c.p (opL c n 0):=hr
  clear hr
  have hbt1:=hw1.lt gt
  obtain⟨hw0,hx,lo,hc,fm,by_,len,p0⟩:=id hrd
  obtain⟨a,cap,hbv,hby⟩:=id by_
  have hbvc:c.cells[10]? = some (.slice a bs.length cap):=by rw[Qjw,hbv]
  have qs:=WC c.x 7 H1 (fm.ext hw0 hx)
  generalize QZ c.x.f.slots 7=i7 at *
  have e8:Q8=.seq (.seq (.ops [⟨some 54,.mv (t 0),none,false⟩,⟨some 55,.gen (.nilCheck (t 54)),none,false⟩,⟨some 56,.fldA 0 (t 55),none,false⟩,⟨some 57,.ld true 10 (t 56),none,false⟩,⟨some 58,.call Q6 [(t 57),(.const (.int .i64 7))],none,false⟩,⟨some 59,.bin .geq (t 58) (.const (.int .i64 0)),none,false⟩]) (.cond (t 59) Xa .skip)) Q7:=rfl
  rw[e8,Ym]
  generalize hK:Qm prog Q7 _ _=K
  simp only[sxA,sxB,Nat.reduceBEq,Nat.reduceEqDiff,reduceCtorEq,mxA,mxB,Nat.reduceAdd,reduceIte,Nat.reduceLeDiff,splice,a0,hc,Wo,Xf]
  refine qs.thenW ?_
  rintro _ _ hn2 hw2 ⟨rfl,k,rfl⟩
  have hk:H1.next≤k:=hn2
  have hrd2:=hrd.up hk
  have oc2:=oc.up hk
  have gt2:(H1.up k).get bt=some (.cells [.int .i64 0,.slice none 0 0] Qb false):=by rw[Qa.get_up];exact gt
  have hne:(bt=b)=False:=by simp;omega
  cases z:decide (0≤i7) with
  | false=>
    rw[if_neg (by rw[z];decide)]at hr1
    simp only[sxA,sxB,Nat.reduceBEq,Nat.reduceEqDiff,reduceCtorEq,mxA,mxB,Nat.reduceAdd,reduceIte,Nat.reduceLeDiff,splice,z]
    rw[← hK]
    refine Qxd b bt c bs n 0 r _ e hw hw2 hrd2 oc2 hb hbt hs hn ?_ ?_ ?_ ?_ gt2 hr1
    all_goals simp only[uxA,uxB,Nat.reduceBEq,a0,a2,a6,a7]
  | true=>
    rw[if_pos z]at hr1
    simp only[Xa,sxA,sxB,Nat.reduceBEq,Nat.reduceEqDiff,reduceCtorEq,mxA,mxB,Nat.reduceAdd,reduceIte,Nat.reduceLeDiff,splice,z,a0,hc,QcO,hbvc]
    by_cases g:(bs.length:Int)≤c.p
    · rw[if_pos g]at hr1
      simp only[g,decide_true,sxA,sxB,Nat.reduceBEq,Nat.reduceEqDiff,reduceCtorEq,mxA,mxB,Nat.reduceAdd,reduceIte,Nat.reduceLeDiff,splice,a2,gt,hne,Wc]
      exact .mk (oc2.put hbt (by omega) _).next (.err (oc2.put hbt (by omega) _) hr1)
    · rw[if_neg g]at hr1
      obtain⟨bb,o,e',ro,cs,rfl,hg,hcs⟩:=hby (by omega)
      have hg':H1.get bb=some (.cells cs e' ro):=(hx.get bb (hw0.lt hg)).trans hg
      have c1:(0:Int)≤c.p∧c.p<bs.length:=by omega
      have g1:=hcs c.p.toNat (by omega)
      have h15:IntKind.u8.wrap (BitVec.ofInt IntKind.u8.bits (bs.getD c.p.toNat 0) &&& BitVec.ofInt IntKind.u8.bits 15).toNat=Qpr bs c.p:=rfl
      have hh4:IntKind.i64.wrap ((bs.getD c.p.toNat 0).fdiv (2 ^ (min (Int.toNat 4) IntKind.u8.bits)))=hi4 bs c.p:=rfl
      have h4:(0:Int)≤4:=by omega
      simp only[g,decide_false,YI,sxA,sxB,Nat.reduceBEq,Nat.reduceEqDiff,reduceCtorEq,mxA,mxB,Nat.reduceAdd,reduceIte,Nat.reduceLeDiff,splice,a0,hc,QcO,hbvc,c1,hg',g1,h15]
      cases z2:Qpr bs c.p==0 with
      | false=>
        rw[if_pos z2]at hr1
        simp only[sxA,sxB,Nat.reduceBEq,Nat.reduceEqDiff,reduceCtorEq,mxA,mxB,Nat.reduceAdd,reduceIte,Nat.reduceLeDiff,splice,a2,gt,hne,Wc]
        exact .mk (oc2.put hbt (by omega) _).next (.err (oc2.put hbt (by omega) _) hr1)
      | true=>
        rw[if_neg (by rw[z2];decide)]at hr1
        simp only[YH,sxA,sxB,Nat.reduceBEq,Nat.reduceEqDiff,reduceCtorEq,mxA,mxB,Nat.reduceAdd,reduceIte,Nat.reduceLeDiff,splice,a0,hc,QcO,hbvc,c1,hg',g1,h4,hh4,Wo,Qoo]
        rw[← hK]
        have p1:IntKind.i64.wrap (c.p+1)=c.p+1:=w64 (by unfold I64;omega)
        have oc3:=(QO.refl hrd2.at_).set {c with p:=IntKind.i64.wrap (c.p+1)}
        refine Qxd b bt {c with p:=IntKind.i64.wrap (c.p+1)} bs n (hi4 bs c.p) r _ e hw (hw2.set hrd2.at_ _) (hrd2.only oc3 rfl rfl (by show 0≤IntKind.i64.wrap (c.p+1)∧IntKind.i64.wrap (c.p+1)≤bs.length;rw[p1];omega)) (oc2.set _) hb hbt hs hn ?_ ?_ ?_ ?_ (by rw[Qa.get_set,if_neg (by omega)];exact gt2) hr1
        all_goals simp only[uxA,uxB,Nat.reduceBEq,a0,a2,a6,a7]
def Qg1 (bs:List Int) (c:Rr):Dr:=
  if decide (0<tl1 c.x.f)=true then
    (if((Xw bs c.p (tl1 c.x.f) true).2==0)=false then Qab (Xw bs c.p (tl1 c.x.f) true).2
     else Qoz bs {c with p:=IntKind.i64.wrap (c.p+tl1 c.x.f)} (Xw bs c.p (tl1 c.x.f) true).1)
  else Qoz bs c 0
theorem QoA {H0:Qa} (b:Nat) (c:Rr) (bs:List Int) (H:Qa) (h:Zf H0 H b c bs) (hs:c.x.f.shapes.length=c.x.f.slots.length):Qf prog WW [.pointer (some ⟨b,0,none⟩)] H (QcT H b (Qg1 bs c)):=by
  refine Vp fun hw=>?_
  obtain⟨r,hr⟩:∃r,r=Qg1 bs c:=⟨_,rfl⟩
  rw[← hr]
  have hr1:r=if decide (0<tl1 c.x.f)=true then
    (if((Xw bs c.p (tl1 c.x.f) true).2==0)=false then Qab (Xw bs c.p (tl1 c.x.f) true).2
     else Qoz bs {c with p:=IntKind.i64.wrap (c.p+tl1 c.x.f)} (Xw bs c.p (tl1 c.x.f) true).1)
    else Qoz bs c 0:=hr
  clear hr
  obtain⟨hw0,hx,lo,hc,fm,by_,len,p0⟩:=id h
  obtain⟨a,cap,hbv,hby⟩:=id by_
  have hbvc:c.cells[10]? = some (.slice a bs.length cap):=by rw[Qjw,hbv]
  have hb:b<H.next:=hw.lt hc
  have hne:(b=H.next)=False:=by simp;omega
  have hx1:Ext H (H.push (.cells [.int .i64 0,.slice none 0 0] Qb false)):=(Ext.refl H).push _
  have gt1:(H.push (.cells [.int .i64 0,.slice none 0 0] Qb false)).get H.next=some (.cells [.int .i64 0,.slice none 0 0] Qb false):=by rw[Qa.get_push,if_pos rfl]
  have hw1:=hw.push (.cells [.int .i64 0,.slice none 0 0] Qb false)
  have h1:=h.only ((QO.refl hc).ext hb hx1) rfl rfl p0
  have oc1:=(QO.refl hc).ext hb hx1
  have e10:Wm=.seq (.ops [⟨some 7,.mv (.const (.int .i64 0)),none,false⟩]) (.seq (.seq (.ops [⟨some 27,.mv (t 5),none,false⟩,⟨some 28,.bin .gtr (t 27) (.const (.int .i64 0)),none,false⟩]) (.cond (t 28) Xb .skip)) Q8):=rfl
  have main:∀ (A:Env) (H2:Qa),H2.Wf→Zf H0 H2 b c bs→QO H H2 b c→H2.get H.next=some (.cells [.int .i64 0,.slice none 0 0] Qb false)→A 0=.pointer (some ⟨b,0,none⟩)→A 2=.pointer (some ⟨H.next,0,none⟩)→A 5=.int .i64 (tl1 c.x.f)→A 6=.int .i64 0→
      Qm prog Wm ⟨Rt prog QE H (QcT H b r),Gw⟩ (Rt prog QE H (QcT H b r)) A H2:=by
    intro A H2 hw2 h2 oc2 gt2 a0 a2 a5 a6
    have htl:=Qou c.x.f
    have hbb:b<H2.next:=hw2.lt h2.at_
    have hne3:(H.next=b)=False:=by simp;omega
    rw[e10,Ym,Ym]
    generalize hK:Qm prog Q8 _ _=K
    have byH:QbY H2 c.bv bs:=by
      refine⟨a,cap,hbv,fun hl=>?_⟩
      obtain⟨bb,o,e,ro,cs,e1,hg,hcs⟩:=hby hl
      exact⟨bb,o,e,ro,cs,e1,by rw[h2.hx.get bb (hw0.lt hg),hg],hcs⟩
    have qg:=VP c.bv bs c.p (tl1 c.x.f) true H2 byH len (by unfold I64;omega)
    have hp:=Qla bs c.p (tl1 c.x.f) true
    have hI:=Qsu bs c.p (tl1 c.x.f) true
    generalize Xw bs c.p (tl1 c.x.f) true=g at *
    simp only[sxA,sxB,mxA,mxB,splice,simprocAttr,a5]
    generalize tl1 c.x.f=sz at *
    cases z:decide (0<sz) with
    | false=>
      rw[if_neg (by rw[z];decide)]at hr1
      have z':decide (sz>0)=false:=z
      simp only[sxA,sxB,mxA,mxB,splice,simprocAttr,z']
      rw[← hK]
      refine Qxe b H.next c bs 0 r _ Gw hw hw2 h2 oc2 hb (Nat.le_refl _) hs (by unfold I64;omega) ?_ ?_ ?_ ?_ gt2 hr1
      all_goals simp only[uxA,uxB,simprocAttr,a0,a2,a6]
    | true=>
      rw[if_pos z]at hr1
      have z':decide (sz>0)=true:=z
      simp only[Xb,sxA,sxB,mxA,mxB,splice,simprocAttr,z',a0,a5,h2.at_,Qjw,QcO]
      refine qg.thenW ?_
      rintro _ H3 hn3 hw3 ⟨rfl,rfl⟩
      simp only[sxA,sxB,mxA,mxB,splice,simprocAttr]
      cases z2:g.2==0 with
      | false=>
        rw[if_pos z2]at hr1
        simp only[sxA,sxB,mxA,mxB,splice,simprocAttr,z2,a2,gt2,hne3,Wc]
        exact .mk (oc2.put (Nat.le_refl _) (by omega) _).next (.err (oc2.put (Nat.le_refl _) (by omega) _) hr1)
      | true=>
        rw[if_neg (by rw[z2];decide)]at hr1
        have hp2:=hp z2
        have p1:IntKind.i64.wrap (c.p+sz)=c.p+sz:=w64 (by unfold I64;omega)
        simp only[sxA,sxB,mxA,mxB,splice,simprocAttr,z2,a0,a5,h2.at_,QcO,Wo,Qoo]
        rw[← hK]
        have oc3:=(QO.refl h2.at_).set {c with p:=IntKind.i64.wrap (c.p+sz)}
        refine Qxe b H.next {c with p:=IntKind.i64.wrap (c.p+sz)} bs g.1 r _ Gw hw (hw3.set h2.at_ _) (h2.only oc3 rfl rfl (by show 0≤IntKind.i64.wrap (c.p+sz)∧IntKind.i64.wrap (c.p+sz)≤bs.length;rw[p1];omega)) (oc2.set _) hb (Nat.le_refl _) hs hI ?_ ?_ ?_ ?_ (by rw[Qa.get_set,if_neg (by omega)];exact gt2) hr1
        all_goals simp only[uxA,uxB,simprocAttr,a0,a2,a6]
  have qt:=Qk3 c.x _ (fm.ext hw0 h1.hx)
  have qs:=fun k (hk:(H.push (.cells [.int .i64 0,.slice none 0 0] Qb false)).next≤k)=>WC c.x 7 _ (fm.ext hw0 (h1.up hk).hx)
  have ht:tlF c.x.f=bif decide (0≤QZ c.x.f.slots 7) then tl1 c.x.f+1 else tl1 c.x.f:=rfl
  have htl:=Qou c.x.f
  generalize tlF c.x.f=tf at *
  generalize QZ c.x.f.slots 7=i7 at *
  generalize hpc:Wm=pc10 at *
  simp only[Zs,hpc,sxA,sxB,mxA,mxB,splice,simprocAttr,hne,hc,Wo,Xf]
  generalize H.push (.cells [.int .i64 0,.slice none 0 0] Qb false)=H1 at *
  refine qt.thenW ?_
  rintro _ _ hn2 hw2 ⟨rfl,k2,rfl⟩
  have hk2:H1.next≤k2:=hn2
  have c2:=(h1.up hk2).at_
  simp only[sxA,sxB,mxA,mxB,splice,simprocAttr,h1.at_,Wo,Xf]
  refine(qs k2 hk2).thenW ?_
  rintro _ _ hn3 hw3 ⟨rfl,k3,rfl⟩
  have hk3:(H1.up k2).next≤k3:=hn3
  have h3:=(h1.up hk2).up hk3
  have oc3:=(oc1.up hk2).up hk3
  have gt3:((H1.up k2).up k3).get H.next=some (.cells [.int .i64 0,.slice none 0 0] Qb false):=by rw[Qa.get_up,Qa.get_up];exact gt1
  cases z:decide (0≤i7) with
  | false=>
    rw[z]at ht
    have ht':tf=tl1 c.x.f:=ht
    simp only[sxA,sxB,mxA,mxB,splice,simprocAttr,z]
    refine main _ _ hw3 h3 oc3 gt3 ?_ ?_ ?_ ?_
    all_goals simp only[uxA,uxB,simprocAttr,ht']
  | true=>
    rw[z]at ht
    have ht':IntKind.i64.wrap (tf - 1)=tl1 c.x.f:=by
      rw[show tf=tl1 c.x.f+1 from ht,w64 (by unfold I64;omega)];omega
    simp only[sxA,sxB,mxA,mxB,splice,simprocAttr,z,ht']
    refine main _ _ hw3 h3 oc3 gt3 ?_ ?_ ?_ ?_
    all_goals simp only[uxA,uxB,simprocAttr]
def InB (bs:List Int) (p:Int):Prop:=0≤p∧p≤bs.length
theorem InB.zero (bs:List Int):InB bs 0:=⟨by omega,by omega⟩
theorem InB.wrap {bs:List Int} {p:Int} (hl:bs.length≤1000000) (h:InB bs p):InB bs (IntKind.i64.wrap p):=by
 unfold InB at *
 rw[w64 (by unfold I64;omega)]
 exact h
theorem QqI (md:Int) (m:Mm):0≤Jp md m:=by
 unfold Jp
 repeat' split
 all_goals decide
theorem QmG {bs:List Int} {p:Int} (mid:Int) (m:Mm) (h:InB bs p):InB bs (Qip mid p m).1.ends:=by
 unfold Qip
 split
 ·exact h
 ·exact .zero bs
theorem QfW {bs:List Int} {p:Int} (hl:bs.length≤1000000) (md mid:Int) (m:Mm) (h:InB bs p):InB bs (V9 bs p md mid m).1.ends:=by
 unfold V9
 split
 ·exact QmG mid m h
 ·split
  ·rename_i h2
   have hp:=Qla _ _ _ _ h2
   have hw:=QqI md m
   exact QmG mid _ (.wrap hl ⟨by omega,hp.2⟩)
  ·exact .zero bs
theorem Qsv {bs:List Int} {p:Int} (hl:bs.length≤1000000) (md mid x bb:Int) (h:InB bs p):InB bs (Qmq bs p md mid x bb).1.ends:=by
 unfold Qmq
 split
 ·rename_i h2
  have hp:=Qla _ _ _ _ h2
  split
  ·exact QfW hl md mid _ (.wrap hl ⟨by omega,hp.2⟩)
  ·exact .zero bs
 ·exact .zero bs
theorem QqJ {bs:List Int} {p:Int} (hl:bs.length≤1000000) (md mid rm x bb:Int) (h:InB bs p):InB bs (Qiq bs p md mid rm x bb).1.ends:=by
 unfold Qiq
 split
 ·exact .zero bs
 ·split
  ·exact h
  ·split
   ·exact Qsv hl md mid x bb h
   ·split
    ·split
     ·exact .zero bs
     ·exact QfW hl md mid _ h
    ·exact QfW hl md mid _ h
theorem Qwc {bs:List Int} {p:Int} (hl:bs.length≤1000000) (x bb:Int):InB bs (rdF bs p x bb).1.ends:=by
 unfold rdF
 split
 ·exact .zero bs
 ·split
  ·rename_i h2
   have hp:=Qla _ _ _ _ h2
   exact QqJ hl _ _ _ x bb (.wrap hl ⟨by omega,hp.2⟩)
  ·exact .zero bs
def Z9 (bs:List Int) (c c':Rr):Prop:=c'.x=c.x∧c'.bv=c.bv∧InB bs c'.p
theorem Z9.trans {bs:List Int} {a b c:Rr} (h:Z9 bs a b) (h':Z9 bs b c):Z9 bs a c:=⟨h'.1.trans h.1,h'.2.1.trans h.2.1,h'.2.2⟩
theorem Z9.self {bs:List Int} {c:Rr} (h:InB bs c.p):Z9 bs c c:=⟨rfl,rfl,h⟩
theorem Qlb {bs:List Int} {c:Rr} (hl:bs.length≤1000000) (n:Int) (h:InB bs c.p):Z9 bs c (We bs c n).2:=⟨rfl,rfl,Qop h hl⟩
theorem Qsw {bs:List Int} (hl:bs.length≤1000000):∀ (n:Nat) (left:Int) (c:Rr),InB bs c.p→Z9 bs c (Qen bs n left c).2
 | 0,_,c,h=>.self h
 | n+1,left,c,h=>by
  rw[Kh]
  have k0:=fun b=>Qlb hl b h
  repeat' split
  all_goals first
   | exact(k0 _).trans (Qsw hl n _ _ (k0 _).2.2)
   | exact k0 _
   | exact .self h
theorem Qsx {bs:List Int} (hl:bs.length≤1000000):∀ (l:List UInt8) (c:Rr),InB bs c.p→Z9 bs c (K6 bs l c).2
 | [],c,h=>.self h
 | n::l,c,h=>by
  have k0:=Qlb hl (n.toNat) h
  show Z9 bs c (if((We bs c n.toNat).1==0)=true then K6 bs l (We bs c n.toNat).2 else We bs c n.toNat).2
  split
  ·exact k0.trans (Qsx hl l _ k0.2.2)
  ·exact k0
theorem Quo {bs:List Int} {c:Rr} (hl:bs.length≤1000000) (h:InB bs c.p):Z9 bs c (QdP bs c).2:=by
 have k0:Z9 bs c (Zg bs c).2:=⟨(QkZ bs c).1,(QkZ bs c).2,QkY h hl⟩
 unfold QdP
 split
 ·exact k0.trans (Qsx hl _ _ k0.2.2)
 ·exact k0
theorem Qlc {bs:List Int} {c:Rr} (hl:bs.length≤1000000) (h:InB bs c.p):Z9 bs c (Ki bs c).2:=by
 have k0:=Qsw hl 4 c.x.f.pre c h
 unfold Ki QdQ
 split
 ·exact k0.trans (Quo hl k0.2.2)
 ·exact k0
theorem Qsy {bs:List Int} {c:Rr} (h:InB bs c.p):Z9 bs c (QcQ bs c).2:=by
 have k0:Z9 bs c (Quk bs c):=⟨rfl,rfl,Qk0 bs⟩
 unfold QcQ
 repeat' split
 all_goals first
  | exact k0
  | exact .self h
theorem Qwd {bs:List Int} {c:Rr} (h:InB bs c.p):Z9 bs c (Vj bs c).2:=by
 have k0:Z9 bs c (Qaa bs c):=⟨rfl,rfl,h⟩
 unfold Vj
 repeat' split
 all_goals first
  | exact Qsy h
  | exact k0.trans (Qsy k0.2.2)
  | exact k0
  | exact .self h
theorem Qup {bs:List Int} {c:Rr} (hl:bs.length≤1000000) (h:InB bs c.p):Z9 bs c (Wj bs c).2:=by
 unfold Wj
 cases c.x.f.vex with
 | true=>exact Qwd h
 | false=>exact Qlc hl h
theorem Qxf {bs:List Int} {c:Rr} (hl:bs.length≤1000000) (h:InB bs c.p):Z9 bs c (opF bs c).2:=by
 unfold opF
 repeat' split
 ·exact Qlb hl _ h
 ·exact .self h
 ·have k0:Z9 bs c {c with low:=Qbh bs c.p}:=⟨rfl,rfl,h⟩
  exact k0.trans (Qlb hl _ k0.2.2)
theorem Qwe {bs:List Int} {c:Rr} (hl:bs.length≤1000000) (h:InB bs c.p):Z9 bs c (Qb1 bs c).2:=by
 unfold Qb1
 repeat' split
 all_goals first
  | exact .self h
  | exact⟨rfl,rfl,Qwc hl _ _⟩
def rd0 (x:Lf) (bv:Value):Rr:=⟨x,bv,0,false,0,0,0,0,0,Ze⟩
def rdH (bs:List Int) (c:Rr):Int×Rr:=Wj bs c
def rdO (bs:List Int) (c:Rr):Int×Rr:=bif (rdH bs c).1==0 then opF bs (rdH bs c).2 else rdH bs c
def rdM (bs:List Int) (c:Rr):Int×Rr:=bif (rdO bs c).1==0 then Qb1 bs (rdO bs c).2 else rdO bs c
def Qj6 (bs:List Int) (x:Lf) (bv:Value):Dr:=bif (rdM bs (rd0 x bv)).1==0 then Qg1 bs (rdM bs (rd0 x bv)).2 else Qab (rdM bs (rd0 x bv)).1
def QdU (H:Qa) (r:Dr):Value→Qa→Prop:=fun u H'=>
 Ext H H'∧∃v',u=.tuple #[.agg #[.int .i64 r.op,v'],.int .i64 r.n,.int .i64 r.e]∧Yv H' v' r.l∧∀a n c,v'=.slice (some a) n c→H.next≤a.block
def Quq:PC:=.seq (.seq (.ops [⟨some 19,.mv (t 8),none,false⟩,⟨some 20,.bin .neq (t 19) (.const (.int .i64 0)),none,false⟩]) (.cond (t 20) (.seq (.ops [⟨some 21,.build [.int .i64 0,.slice none 0 0] [],none,false⟩,⟨some 22,.mv (t 8),none,false⟩,⟨none,.st 2 (t 4) (t 21),none,false⟩,⟨some 5,.mv (.const (.int .i64 0)),none,false⟩,⟨some 6,.mv (t 22),none,false⟩]) .ret) .skip))
 (.seq (.ops [⟨some 23,.call WW [(t 7)],none,false⟩,⟨some 24,.ext (t 23) 0,none,false⟩,⟨some 25,.ext (t 23) 1,none,false⟩,⟨some 26,.ext (t 23) 2,none,false⟩,⟨none,.st 2 (t 4) (t 24),none,false⟩,⟨some 5,.mv (t 25),none,false⟩,⟨some 6,.mv (t 26),none,false⟩]) .ret)
def Qur:PC:=.seq (.seq (.ops [⟨some 16,.mv (t 8),none,false⟩,⟨some 17,.bin .eql (t 16) (.const (.int .i64 0)),none,false⟩]) (.cond (t 17) (.ops [⟨some 18,.call Xo [(t 7)],none,false⟩,⟨some 8,.mv (t 18),none,false⟩]) .skip)) Quq
def Qwf:PC:=.seq (.seq (.ops [⟨some 13,.mv (t 8),none,false⟩,⟨some 14,.bin .eql (t 13) (.const (.int .i64 0)),none,false⟩]) (.cond (t 14) (.ops [⟨some 15,.call W7 [(t 7)],none,false⟩,⟨some 8,.mv (t 15),none,false⟩]) .skip)) Qur
structure StR (H H3 H4:Qa) (b bt:Nat) (c0 c:Rr) (bs:List Int) (A:Env) (e:Int):Prop where
 wf:H4.Wf
 rd:Zf H H4 b c bs
 oc:QO H3 H4 b c
 kx:c.x=c0.x
 a4:A 4=.pointer (some ⟨bt,0,none⟩)
 a7:A 7=.pointer (some ⟨b,0,none⟩)
 a8:A 8=.int .i64 e
section
variable {H H3:Qa} {b bt:Nat} {c0:Rr} {bs:List Int} {r:Dr}
theorem Qwg (hw:H.Wf) (hx3:Ext H H3) (hbt:H.next≤bt) (hb:H.next≤b) (htb:bt≠b) (hbt3:bt<H3.next) (hb3:b<H3.next) (gt3:H3.get bt=some (.cells [.int .i64 0,.slice none 0 0] Qb false)) (hs:c0.x.f.shapes.length=c0.x.f.slots.length)
  (m:Int×Rr) (A:Env) (H4:Qa) (h:StR H H3 H4 b bt c0 m.2 bs A m.1) (hr:r=bif m.1==0 then Qg1 bs m.2 else Qab m.1):
  Qm prog Quq ⟨Rt prog Yz H (QdU H r),Gw⟩ (Rt prog Yz H (QdU H r)) A H4:=by
 obtain⟨hw4,hrd,oc,kx,a4,a7,a8⟩:=h
 have gt4:=(oc.get bt hbt3 htb).trans gt3
 have hx4:=hrd.hx
 simp only[Quq,sxA,sxB,mxA,mxB,splice,simprocAttr,a8]
 cases z:m.1==0 with
 | false=>
  rw[z]at hr
  have hr2:r=Qab m.1:=hr
  simp only[sxA,sxB,mxA,mxB,splice,simprocAttr,z,a4,a8,gt4,Qbt]
  exact .mk (hx4.set hbt _).next ⟨hx4.set hbt _,_,by rw[hr2];rfl,by rw[hr2];exact⟨none,0,rfl,fun h=>absurd h (Nat.lt_irrefl 0)⟩,fun a n c h=>by cases h⟩
 | true=>
  rw[z]at hr
  have hr2:r=Qg1 bs m.2:=hr
  simp only[sxA,sxB,mxA,mxB,splice,simprocAttr,z,a7]
  refine(QoA b m.2 bs H4 hrd (by rw[kx];exact hs)).thenW ?_
  rintro _ H5 hn5 hw5 ⟨hn,hk,v',rfl,hv,hfr⟩
  have hbt4:=hw4.lt gt4
  have gt5:=(hk bt hbt4 htb).trans gt4
  have hx5:Ext H H5:=⟨Nat.le_trans hx4.next hn,fun id hid=>by rw[hk id (Nat.lt_of_lt_of_le hid hx4.next) (by omega),hx4.get id hid]⟩
  obtain⟨va,vc,rfl,hv2⟩:=id hv
  simp only[sxA,sxB,mxA,mxB,splice,simprocAttr,a4,gt5,Qbt]
  refine .mk (hx5.set hbt _).next ⟨hx5.set hbt _,_,by rw[hr2],?_,fun a n c h=>?_⟩
  ·rw[hr2]
   refine⟨va,vc,rfl,fun h=>?_⟩
   obtain⟨b2,e2,ro2,rfl,hg⟩:=hv2 h
   have h1:=hfr _ _ _ rfl
   simp only at h1
   exact⟨b2,e2,ro2,rfl,by rw[Qa.get_set,if_neg (by omega)];exact hg⟩
  ·have:=hfr a n c h
   have:=hx4.next
   omega
theorem Qwh (hw:H.Wf) (hx3:Ext H H3) (hbt:H.next≤bt) (hb:H.next≤b) (htb:bt≠b) (hbt3:bt<H3.next) (hb3:b<H3.next) (gt3:H3.get bt=some (.cells [.int .i64 0,.slice none 0 0] Qb false)) (hs:c0.x.f.shapes.length=c0.x.f.slots.length)
  (o:Int×Rr) (A:Env) (H4:Qa) (h:StR H H3 H4 b bt c0 o.2 bs A o.1) (m:Int×Rr) (hm:m=bif o.1==0 then Qb1 bs o.2 else o) (hr:r=bif m.1==0 then Qg1 bs m.2 else Qab m.1):
  Qm prog Qur ⟨Rt prog Yz H (QdU H r),Gw⟩ (Rt prog Yz H (QdU H r)) A H4:=by
 have s3:=fun m A H4 h=>Qwg (r:=r) (c0:=c0) (bs:=bs) hw hx3 hbt hb htb hbt3 hb3 gt3 hs m A H4 h
 have h':=h
 obtain⟨hw4,hrd,oc,kx,a4,a7,a8⟩:=h
 rw[Qur,Ym]
 generalize hK:Qm prog Quq _ _=K
 simp only[sxA,sxB,mxA,mxB,splice,simprocAttr,a8]
 cases z:o.1==0 with
 | false=>
  rw[z]at hm
  have hm2:m=o:=hm
  subst hm2
  simp only[sxA,sxB,mxA,mxB,splice,simprocAttr]
  rw[← hK]
  refine s3 m _ H4 ⟨hw4,hrd,oc,kx,?_,?_,?_⟩ hr
  all_goals simp only[uxA,uxB,simprocAttr,a4,a7,a8]
 | true=>
  rw[z]at hm
  have hm2:m=Qb1 bs o.2:=hm
  have kk:=Qwe (c:=o.2) hrd.len hrd.p0
  have q:=Qiu b o.2 bs H4 hrd (by rw[kx];exact hs)
  rw[← hm2]at kk q
  simp only[sxA,sxB,mxA,mxB,splice,simprocAttr,a7]
  refine q.thenW ?_
  rintro _ H5 hn5 hw5 ⟨rfl,oc5⟩
  simp only[sxA,sxB,mxA,mxB,splice,simprocAttr]
  rw[← hK]
  refine s3 m _ H5 ⟨hw5,hrd.only oc5 kk.1 kk.2.1 kk.2.2,oc.trans oc5,kk.1.trans kx,?_,?_,?_⟩ hr
  all_goals simp only[uxA,uxB,simprocAttr,a4,a7]
theorem Qwi (hw:H.Wf) (hx3:Ext H H3) (hbt:H.next≤bt) (hb:H.next≤b) (htb:bt≠b) (hbt3:bt<H3.next) (hb3:b<H3.next) (gt3:H3.get bt=some (.cells [.int .i64 0,.slice none 0 0] Qb false)) (hs:c0.x.f.shapes.length=c0.x.f.slots.length)
  (o:Int×Rr) (A:Env) (H4:Qa) (h:StR H H3 H4 b bt c0 o.2 bs A o.1) (m:Int×Rr) (hm:m=bif o.1==0 then opF bs o.2 else o) (w:Int×Rr) (hm':w=bif m.1==0 then Qb1 bs m.2 else m) (hr:r=bif w.1==0 then Qg1 bs w.2 else Qab w.1):
  Qm prog Qwf ⟨Rt prog Yz H (QdU H r),Gw⟩ (Rt prog Yz H (QdU H r)) A H4:=by
 have s3:=fun m A H4 h hm=>Qwh (r:=r) (c0:=c0) (bs:=bs) hw hx3 hbt hb htb hbt3 hb3 gt3 hs m A H4 h w hm hr
 obtain⟨hw4,hrd,oc,kx,a4,a7,a8⟩:=h
 rw[Qwf,Ym]
 generalize hK:Qm prog Qur _ _=K
 simp only[sxA,sxB,mxA,mxB,splice,simprocAttr,a8]
 cases z:o.1==0 with
 | false=>
  rw[z]at hm
  have hm2:m=o:=hm
  subst hm2
  simp only[sxA,sxB,mxA,mxB,splice,simprocAttr]
  rw[← hK]
  refine s3 m _ H4 ⟨hw4,hrd,oc,kx,?_,?_,?_⟩ hm'
  all_goals simp only[uxA,uxB,simprocAttr,a4,a7,a8]
 | true=>
  rw[z]at hm
  have hm2:m=opF bs o.2:=hm
  have kk:=Qxf (c:=o.2) hrd.len hrd.p0
  have q:=Qsc b o.2 bs H4 hrd
  rw[← hm2]at kk q
  simp only[sxA,sxB,mxA,mxB,splice,simprocAttr,a7]
  refine q.thenW ?_
  rintro _ H5 hn5 hw5 ⟨rfl,oc5⟩
  simp only[sxA,sxB,mxA,mxB,splice,simprocAttr]
  rw[← hK]
  refine s3 m _ H5 ⟨hw5,hrd.only oc5 kk.1 kk.2.1 kk.2.2,oc.trans oc5,kk.1.trans kx,?_,?_,?_⟩ hm'
  all_goals simp only[uxA,uxB,simprocAttr,a4,a7]
end
theorem Qjz (x:Lf) (bv:Value) (bs:List Int) (H:Qa) (hx:x.At H) (hb:QbY H bv bs) (hl:bs.length≤1000000) (hs:x.f.shapes.length=x.f.slots.length):Qf prog ZO [.agg x.cells.toArray,bv] H (QdU H (Qj6 bs x bv)):=by
 refine Qie fun hw=>?_
 obtain⟨va,vc,rfl,_⟩:=id hb
 obtain⟨r,hr⟩:∃r,r=Qj6 bs x (.slice va bs.length vc):=⟨_,rfl⟩
 rw[← hr]
 have hr1:r=bif (rdM bs (rd0 x (.slice va bs.length vc))).1==0 then Qg1 bs (rdM bs (rd0 x (.slice va bs.length vc))).2 else Qab (rdM bs (rd0 x (.slice va bs.length vc))).1:=hr
 clear hr
 have ex:(Value.agg x.cells.toArray).cells.toList=x.cells:=rfl
 obtain⟨sa,sc,se,_⟩:=id hx.2.2.1
 obtain⟨ta,tc,te,_⟩:=id hx.2.2.2
 have ePC:Qcu=.seq (.ops [⟨some 2,.box Qc (t 0),none,false⟩,⟨some 4,.alloc Qb [.int .i64 0,.slice none 0 0],none,false⟩,⟨some 5,.mv (.const (.int .i64 0)),none,false⟩,⟨some 6,.mv (.const (.int .i64 0)),none,false⟩]) (.seq (.ops [⟨some 9,.ld true 10 (t 2),none,false⟩,⟨some 10,.mv (t 1),none,false⟩,⟨some 11,.build [.int .i64 0,.slice none 0 0,.slice none 0 0,.int .i64 0,.int .i64 0,.int .i64 0,.int .i64 0,.int .i64 0,.bool false,.int .i64 0,.slice none 0 0,.int .i64 0,.bool false,.int .i64 0,.int .i64 0,.int .i64 0,.int .i64 0,.int .i64 0,.int .i64 0,.int .i64 0,.int .i64 0,.int .i64 0,.int .i64 0,.int .i64 0,.int .i64 0,.int .i64 0,.int .i64 0,.int .i64 0] [(0,10,(t 9)),(10,1,(t 10))],none,false⟩,⟨some 7,.alloc QG [.int .i64 0,.slice none 0 0,.slice none 0 0,.int .i64 0,.int .i64 0,.int .i64 0,.int .i64 0,.int .i64 0,.bool false,.int .i64 0,.slice none 0 0,.int .i64 0,.bool false,.int .i64 0,.int .i64 0,.int .i64 0,.int .i64 0,.int .i64 0,.int .i64 0,.int .i64 0,.int .i64 0,.int .i64 0,.int .i64 0,.int .i64 0,.int .i64 0,.int .i64 0,.int .i64 0,.int .i64 0],none,false⟩,⟨none,.st 28 (t 7) (t 11),none,false⟩]) (.seq (.ops [⟨some 12,.call XC [(t 7)],none,false⟩,⟨some 8,.mv (t 12),none,false⟩]) Qwf)):=rfl
 rw[ePC]
 simp only[ex,sxA,sxB,mxA,mxB,splice,simprocAttr,Qp,QW]
 change Qoa (some (rd0 x (.slice va bs.length vc)).cells) _ _
 have c0all:((rd0 x (.slice va bs.length vc)).cells.all fun x=>x.oneCell')=true:=by
  show((x.cells++_).all fun x=>x.oneCell')=true
  rw[List.all_append,W5 hx]
  rfl
 generalize hc0:rd0 x (.slice va bs.length vc)=c0 at *
 have tk0:List.take 28 c0.cells=c0.cells:=List.take_of_length_le (Nat.le_of_eq (Wo c0))
 simp only[sxA,sxB,mxA,mxB,splice,simprocAttr,Wo,c0all,tk0]
 generalize hH3:Qa.set _ (H.next+1+1) (.cells c0.cells QG false)=H3
 have n1:H.next+1≠H.next+1+1:=by omega
 have hx3:Ext H H3:=by
  rw[← hH3]
  exact((((Ext.refl H).push _).push _).push _).set (by omega) _
 have hg3:H3.get (H.next+1+1)=some (.cells c0.cells QG false):=by rw[← hH3,Qa.get_set,if_pos rfl]
 have gt3:H3.get (H.next+1)=some (.cells [.int .i64 0,.slice none 0 0] Qb false):=by
  rw[← hH3,Qa.get_set,if_neg n1,Qa.get_push,if_neg (by simp only[Qa.next_push];omega),Qa.get_push,if_pos (by simp only[Qa.next_push])]
 have hn3:H3.next=H.next+1+1+1:=by rw[← hH3];simp only[Qa.next_set,Qa.next_push]
 clear hH3
 have x0:c0.x=x:=by rw[← hc0];rfl
 have b0:c0.bv=.slice va bs.length vc:=by rw[← hc0];rfl
 have p0:c0.p=0:=by rw[← hc0];rfl
 have hrd:Zf H H3 (H.next+1+1) c0 bs:=⟨hw,hx3,by omega,hg3,by rw[x0];exact hx,by rw[b0];exact hb,hl,by rw[p0];omega⟩
 generalize hb9:H.next+1+1=b at *
 refine(Qv8 b c0 bs H3 hrd (by rw[x0];exact hs)).thenW ?_
 rintro _ H4 hn4 hw4 ⟨rfl,oc4⟩
 have kh:=Qup hl hrd.p0
 simp only[sxA,sxB,mxA,mxB,splice,simprocAttr]
 refine Qwi (bt:=H.next+1) (c0:=c0) hw hx3 (by omega) (by omega) n1 (by omega) (by omega) gt3 (by rw[x0];exact hs) (Wj bs c0) _ H4 ⟨hw4,hrd.only oc4 kh.1 kh.2.1 kh.2.2,oc4,kh.1,?_,?_,?_⟩ (rdO bs c0) rfl (rdM bs c0) rfl hr1
 all_goals simp only[uxA,uxB,simprocAttr]
def Rr.els (s t v:Value) (c:Rr):Rr:={c with x:=⟨c.x.f,s,t⟩,bv:=v}
def QaL (s t v:Value) (e:Int×Rr):Int×Rr:=(e.1,e.2.els s t v)
section
variable (bs:List Int) (s t v:Value)
theorem Ja (p:Prop) [Decidable p] (a b:Int×Rr):QaL s t v (if p then a else b)=if p then QaL s t v a else QaL s t v b:=by split<;>rfl
theorem QmH:∀ (n:Nat) (left:Int) (c:Rr),Qen bs n left (c.els s t v)=QaL s t v (Qen bs n left c)
 | 0,_,_=>rfl
 | n+1,left,c=>by
  rw[Kh,Kh]
  simp only[Ja]
  have e:=fun b=>QmH n (Qfb left (W6 b)) (We bs c (Zr b)).2
  simp only[← e]
  rfl
theorem QmI:∀ (l:List UInt8) (c:Rr),K6 bs l (c.els s t v)=QaL s t v (K6 bs l c)
 | [],_=>rfl
 | n::l,c=>by
  show(if((We bs c n.toNat).1==0)=true then K6 bs l ((We bs c n.toNat).2.els s t v) else QaL s t v (We bs c n.toNat))=QaL s t v (if((We bs c n.toNat).1==0)=true then K6 bs l (We bs c n.toNat).2 else We bs c n.toNat)
  rw[Ja,QmI l]
theorem QoB (c:Rr) (w:Int):X3 (c.els s t v) w=QaL s t v (X3 c w):=by
 unfold X3
 rw[Ja]
 rfl
theorem Qsz (c:Rr):Zg bs (c.els s t v)=QaL s t v (Zg bs c):=by
 unfold Zg
 simp only[Ja,← QoB]
 rfl
theorem QqK (c:Rr):QdP bs (c.els s t v)=QaL s t v (QdP bs c):=by
 unfold QdP
 rw[Qsz,Ja,← QmI]
 rfl
theorem QsA (c:Rr):Ki bs (c.els s t v)=QaL s t v (Ki bs c):=by
 unfold Ki QdQ
 rw[show(c.els s t v).x.f.pre=c.x.f.pre from rfl,QmH,Ja,← QqK]
 rfl
theorem QsB (c:Rr):QcQ bs (c.els s t v)=QaL s t v (QcQ bs c):=by
 unfold QcQ
 simp only[Ja]
 rfl
theorem QsC (c:Rr):Vj bs (c.els s t v)=QaL s t v (Vj bs c):=by
 unfold Vj
 simp only[Ja,← QsB]
 rfl
theorem QqL (c:Rr):Wj bs (c.els s t v)=QaL s t v (Wj bs c):=by
 unfold Wj
 rw[show(c.els s t v).x.f.vex=c.x.f.vex from rfl,QsC,QsA]
 cases c.x.f.vex<;>rfl
theorem Qus (c:Rr):opF bs (c.els s t v)=QaL s t v (opF bs c):=by
 unfold opF
 simp only[Ja]
 rfl
theorem QsD (c:Rr):Qb1 bs (c.els s t v)=QaL s t v (Qb1 bs c):=by
 unfold Qb1
 simp only[Ja]
 rfl
theorem Qut (c:Rr):rdO bs (c.els s t v)=QaL s t v (rdO bs c):=by
 unfold rdO rdH
 rw[QqL]
 show(bif (Wj bs c).1==0 then opF bs ((Wj bs c).2.els s t v) else QaL s t v (Wj bs c))=_
 rw[Qus]
 cases(Wj bs c).1==0<;>rfl
theorem Quu (c:Rr):rdM bs (c.els s t v)=QaL s t v (rdM bs c):=by
 unfold rdM
 rw[Qut]
 show(bif (rdO bs c).1==0 then Qb1 bs ((rdO bs c).2.els s t v) else QaL s t v (rdO bs c))=_
 rw[QsD]
 cases(rdO bs c).1==0<;>rfl
end
def QA (bs:List Int) (f:Fm):Dr:=Qj6 bs ⟨f,.slice none 0 0,.slice none 0 0⟩ (.slice none 0 0)
theorem QmJ (bs:List Int) (x:Lf) (bv:Value):Qj6 bs x bv=QA bs x.f:=by
 unfold QA Qj6
 have e:rd0 ⟨x.f,.slice none 0 0,.slice none 0 0⟩ (.slice none 0 0)=(rd0 x bv).els (.slice none 0 0) (.slice none 0 0) (.slice none 0 0):=rfl
 rw[e,Quu]
 rfl
theorem QsE (x:Lf) (bv:Value) (bs:List Int) (H:Qa) (hx:x.At H) (hb:QbY H bv bs) (hl:bs.length≤1000000) (hs:x.f.shapes.length=x.f.slots.length):Qf prog ZO [.agg x.cells.toArray,bv] H (QdU H (QA bs x.f)):=by
 rw[← QmJ bs x bv]
 exact Qjz x bv bs H hx hb hl hs
theorem QiG.by_ {H:Qa} {v:Value} {bs:List Int} (h:QiG H v bs):QbY H v bs:=by
 obtain⟨a,cap,rfl,h1⟩:=h
 refine⟨a,cap,rfl,fun hl=>?_⟩
 obtain⟨b,o,c,e,ro,rfl,hg,hc⟩:=h1 hl
 exact⟨b,o,e,ro,c,rfl,hg,hc⟩
def QfY (bs:List Int):List Fm→Int→Dr
 | [],err=>Qab err
 | f::l,err=>if((QA bs f).e==0)=true then⟨(QA bs f).op,(QA bs f).l,(QA bs f).n,0⟩ else QfY bs l (if((QA bs f).e==9)=true then 9 else err)
theorem QqQ (bs:List Int) {L:List Fm} {k:Nat} {f:Fm} (h:L[k]? = some f) (err:Int):QfY bs (L.drop k) err=if((QA bs f).e==0)=true then⟨(QA bs f).op,(QA bs f).l,(QA bs f).n,0⟩ else QfY bs (L.drop (k+1)) (if((QA bs f).e==9)=true then 9 else err):=by
 obtain⟨hk,rfl⟩:=List.getElem?_eq_some_iff.1 h
 rw[List.drop_eq_getElem_cons hk]
 rfl
theorem Qg3 {T:Qa→Prop} {L:List Fm} {bs:List Int} (hR:∀H,T H→Qf prog Wg [] H fun u H'=>Qfi H H' u L) (hty:QiF Ws) (hL:∀f∈QV bs true 0 L,f.shapes.length=f.slots.length) (va:Value) (hT:∀H H',H.Wf→T H→Ext H H'→T H') (H:Qa) (ht:T H) (hb:QiG H va bs) (hbl:bs.length≤100000):
  Qf prog KN [va] H (QdU H (QfY bs (QV bs true 0 L) 4)):=by
 refine QfI fun hw=>?_
 simp only[Qan,sxA,sxB,mxA,mxB,splice,simprocAttr]
 have hx0:Ext H (H.push (.cells [.int .i64 0,.slice none 0 0] Qb false)):=(Ext.refl H).push _
 have hg0:(H.push (.cells [.int .i64 0,.slice none 0 0] Qb false)).get H.next=some (.cells [.int .i64 0,.slice none 0 0] Qb false):=by rw[Qa.get_push,if_pos rfl]
 have hw0:=hw.push (.cells [.int .i64 0,.slice none 0 0] Qb false)
 generalize H.push (.cells [.int .i64 0,.slice none 0 0] Qb false)=H0 at hx0 hg0 hw0
 refine(Qac hR hty va bs H0 (hT _ _ hw ht hx0) (hb.ext hw hx0) hbl).thenW ?_
 rintro v1 H1 hn1 hw1 ⟨hx1,ys,e1,ha1,hl1,hf1⟩
 obtain⟨⟨aa,cap,rfl,hsl⟩,hxa⟩:=id ha1.fms
 rw[← e1]at hL
 rw[← e1]
 obtain⟨r,hr⟩:∃r,r=QfY bs (ys.map (·.f)) 4:=⟨_,rfl⟩
 rw[← hr]
 have hlt0:=hw0.lt hg0
 simp only[sxA,sxB,mxA,mxB,splice,simprocAttr]
 refine QX (fun m A' H'=>∃ (k:Nat) (err:Int),k≤ys.length∧m=ys.length - k∧H'.Wf∧Ext H1 H'∧
   A' 0=va∧A' 2=.pointer (some ⟨H.next,0,none⟩)∧A' 5=.int .i64 err∧A' 12=.slice aa ys.length cap∧A' 13=.int .i64 ys.length∧A' 14=.int .i64 k∧r=QfY bs ((ys.map (·.f)).drop k) err) ys.length ?_ ?_
 ·refine⟨0,4,Nat.zero_le _,by omega,hw1,.refl _,?_,?_,?_,?_,?_,?_,hr⟩
  all_goals simp only[uxA,uxB,simprocAttr]
  all_goals rfl
 ·rintro m A' H3 ⟨k,err,hk,rfl,hw3,hx3,r0,r2,r5,r12,r13,r14,hrk⟩
  simp only[sxA,sxB,mxA,mxB,splice,simprocAttr,r13,r14]
  have hg3:H3.get H.next=some (.cells [.int .i64 0,.slice none 0 0] Qb false):=by rw[(hx1.trans hx3).get _ hlt0];exact hg0
  refine Qg (fun h3=>?_) (fun h3=>?_)
  ·have h3:k<ys.length:=by have:=of_decide_eq_true h3;omega
   obtain⟨b1,e1',ro1,rfl,hg1⟩:=hsl (by omega)
   have hg3':H3.get b1=some (.cells (QS ys) e1' ro1):=by rw[hx3.get _ (hw1.lt hg1)];exact hg1
   have d1:(0:Int)≤k∧(k:Int)<ys.length:=by omega
   have d3:(k:Int).toNat=k:=by omega
   have d4:k * 10+10≤ys.length * 10:=by omega
   have ek:IntKind.i64.wrap ((k:Int)+1)=((k+1:Nat):Int):=by rw[w64 (by unfold I64;omega)];omega
   have hpk:=List.getElem?_eq_getElem h3
   have hmk:(ys.map (·.f))[k]? = some ys[k].f:=by rw[List.getElem?_map,hpk];rfl
   have dd:=Zq ys k _ hpk
   have nn:=Wx ys
   have hym:ys[k]∈ys:=List.getElem_mem h3
   have wk:=(hxa _ hym).ext hw1 hx3
   rw[QqQ bs hmk]at hrk
   generalize ys[k]=x at hpk dd hym wk hrk
   have ak:=W5 wk
   simp only[sxA,sxB,mxA,mxB,splice,simprocAttr,r0,r12,r14,d1,d3,d4,hg3',nn,dd,Qp,QW,ak]
   obtain⟨G1,hG1⟩:∃h,h=(H3.push (.cells [.int .i64 0,.slice none 0 0,.slice none 0 0,.int .i64 0,.int .i64 0,.int .i64 0,.int .i64 0,.int .i64 0,.bool false,.int .i64 0] Qc false)).set H3.next (.cells x.cells Qc false):=⟨_,rfl⟩
   have hwG1:G1.Wf:=by rw[hG1];exact(hw3.push _).set (by rw[Qa.get_push,if_pos rfl]) _
   have hxG1:Ext H3 G1:=by rw[hG1];exact((Ext.refl H3).push _).set (Nat.le_refl _) _
   simp only[← hG1]
   have hxa1:Ext H G1:=(hx0.trans hx1).trans (hx3.trans hxG1)
   refine(QsE x va bs G1 (wk.ext hw3 hxG1) (hb.ext hw hxa1).by_ (by omega) (hL x.f (List.mem_map_of_mem hym))).thenW ?_
   rintro _ G2 hn4 hw4 ⟨hxG2,v',rfl,hv',hfr⟩
   generalize QA bs x.f=d at *
   obtain⟨va',vc',rfl,hv2⟩:=id hv'
   have hgG2:G2.get H.next=some (.cells [.int .i64 0,.slice none 0 0] Qb false):=by rw[(hxG1.trans hxG2).get _ (hw3.lt hg3)];exact hg3
   have hx5:=fun C=>((Ext.refl G2).push (.cells [.int .i64 0,.slice none 0 0] Qb false)).set (i:=G2.next) (Nat.le_refl _) C
   have hltG:=hw4.lt hgG2
   have hne:(H.next=G2.next)=False:=by simp;omega
   simp only[sxA,sxB,mxA,mxB,splice,simprocAttr]
   cases z:d.e==0 with
   | true=>
    rw[if_pos z]at hrk
    simp only[sxA,sxB,mxA,mxB,splice,simprocAttr,z,r2,hgG2,hne,VH]
    have hxx:Ext H (((G2.push (.cells [.int .i64 0,.slice none 0 0] Qb false)).set G2.next (.cells [.int .i64 d.op,.slice va' d.l.length vc'] Qb false)).set H.next (.cells [.int .i64 d.op,.slice va' d.l.length vc'] Qb false)):=(hxa1.trans (hxG2.trans (hx5 _))).set (Nat.le_refl _) _
    have hGn:=hxa1.next
    have hH1:=(hx0.trans hx1).next
    have hH3:=hx3.next
    have hG1n:=hxG1.next
    have hl3:=hw3.lt hg3
    refine .mk hxx.next ⟨hxx,_,by rw[hrk],?_,fun a n c h=>?_⟩
    ·rw[hrk]
     refine⟨va',vc',rfl,fun h=>?_⟩
     obtain⟨b2,e2,ro2,rfl,hg⟩:=hv2 h
     have h1:=hfr _ _ _ rfl
     have h2:=hw4.lt hg
     simp only at h1
     exact⟨b2,e2,ro2,rfl,by rw[Qa.get_set,if_neg (by omega),Qa.get_set,if_neg (by omega),Qa.get_push,if_neg (by omega)];exact hg⟩
    ·have:=hfr a n c h
     omega
   | false=>
    rw[if_neg (by rw[z];decide)]at hrk
    cases h9:d.e==9 with
    | true=>
     rw[if_pos h9]at hrk
     simp only[sxA,sxB,mxA,mxB,splice,simprocAttr,z,h9,r14,ek]
     refine⟨ys.length - (k+1),by omega,k+1,9,by omega,rfl,?_,hx3.trans ((hxG1.trans hxG2).trans (hx5 _)),?_,?_,?_,?_,?_,?_,hrk⟩
     ·exact(hw4.push _).set (by rw[Qa.get_push,if_pos rfl]) _
     all_goals simp only[uxA,uxB,simprocAttr,r0,r2,r12,r13]
    | false=>
     rw[if_neg (by rw[h9];decide)]at hrk
     simp only[sxA,sxB,mxA,mxB,splice,simprocAttr,z,h9,r14,ek]
     refine⟨ys.length - (k+1),by omega,k+1,err,by omega,rfl,?_,hx3.trans ((hxG1.trans hxG2).trans (hx5 _)),?_,?_,?_,?_,?_,?_,hrk⟩
     ·exact(hw4.push _).set (by rw[Qa.get_push,if_pos rfl]) _
     all_goals simp only[uxA,uxB,simprocAttr,r0,r2,r5,r12,r13]
  ·have h3:k=ys.length:=by have:=of_decide_eq_false h3;omega
   subst h3
   rw[List.drop_eq_nil_of_le (by rw[List.length_map];exact Nat.le_refl _)]at hrk
   have hr2:r=Qab err:=hrk
   have hxx:=hx0.trans (hx1.trans hx3)
   simp only[sxA,sxB,mxA,mxB,splice,simprocAttr,r2,r5,hg3,VH]
   exact .mk (hxx.set (Nat.le_refl _) _).next ⟨hxx.set (Nat.le_refl _) _,_,by rw[hr2];rfl,by rw[hr2];exact⟨none,0,rfl,fun h=>absurd h (Nat.lt_irrefl 0)⟩,fun a n c h=>by cases h⟩
end Go.Proofs.YtfofbicfabokbaaGreatDoor.code
