/- Closed runs of functions of numbers and texts, as contracts over any heap. -/
import Derived.Test.YtiepokkmhhginaaGreatDoorC0Code
import Derived.Test.YtiepokkmhhginaaGreatDoorAbD
import Derived.Test.YtiepokkmhhginaaGreatDoorAbC
import Derived.Test.YtiepokkmhhginaaGreatDoorLibA
import Derived.Laws.Bits64
import Derived.Lib.IndexLaws
import Derived.Test.YtiepokkmhhginaaGreatDoorLibI
set_option linter.unusedVariables false
set_option maxRecDepth 100000
set_option linter.unusedSimpArgs false
set_option maxHeartbeats 4000000
noncomputable section
namespace Go.Proofs.YtiepokkmhhginaaGreatDoor.code
open Go.Ab
def QyB:FuncId->Option Xk:=λf=>bif Nat.beq f Q5 then some .indexByte else bif Nat.beq f W9 then some .noEscape else none
theorem QhY:IsExt prog Q5 .indexByte:=⟨_,rfl,by kernel_rfl,by kernel_rfl,by kernel_rfl,by kernel_rfl⟩
theorem QjT:IsExt prog W9 .noEscape:=⟨_,rfl,by kernel_rfl,by kernel_rfl,by kernel_rfl,by kernel_rfl⟩
theorem Qnu:∀f k,QyB f=some k->IsExt prog f k:=by
 intro f k h;unfold QyB at h;cases b1:Nat.beq f Q5 with
 | true=>rw[b1]at h;cases h;rw[LA b1];exact QhY
 | false=>
  rw[b1,Ls]at h;cases b3:Nat.beq f W9 with
  | true=>rw[b3]at h;cases h;rw[LA b3];exact QjT
  | false=>rw[b3]at h;cases h
def isV (u:Value):Option (Value×Qa)->Bool
 | some (v,_)=>Qa7 6 u v
 | none=>false
def Qz3 (f:FuncId) (args:List Value) (u:Value):Bool:=isV u ((run prog (xknown QyB) 200 5 12).fn f args (H0 prog))
theorem QqN {f:FuncId} {args:List Value} {u:Value} (he:entered prog f=true) (ha:args.all Ab.plain=true) (hu:Ab.plain u=true) (h:Qz3 f args u=true) (H:Qa):Qg prog f args H λv H'=>v=u∧H'=H:=by
 unfold Qz3 isV at h;split at h
 ·rename_i v H1 hr;have hd:=((Qdn (xknown_ok Qnu) 12).fn f args _ _ H1 hr).does he;have e:u=v:=Kk 6 _ _ h;subst e;exact QcU he (Qtv hd ha hu H)
 ·cases h
theorem QGj {n:Int} (h0:0<=n) (h1:n<18446744073709551616):IntKind.u64.wrap n=n:=by rw[NC];omega
def Qoo (d:Nat):UInt8:=(if d<10 then 48+d else 87+d).toUInt8
def dgs (b u:Nat):List UInt8:=if h:u<b∨b<2 then[Qoo u] else dgs b (u / b)++[Qoo (u % b)]
termination_by u
decreasing_by exact R1 (by omega) (by omega)
theorem Qgu {b u:Nat} (h:u<b):dgs b u=[Qoo u]:=by rw[dgs,dif_pos (.inl h)]
theorem QiO {b u:Nat} (h:b<=u) (hb:2<=b):dgs b u=dgs b (u / b)++[Qoo (u % b)]:=by rw[dgs,dif_neg (by omega)]
theorem QD8 (b u:Nat):dgs b u≠[]:=by
 rw[dgs];split<;>simp
def Qtx (n:Int) (b:Nat) (ahead:List UInt8):List UInt8:=(if n<0 then[45] else[])++ahead++dgs b n.natAbs
def Kg (n:Int):List UInt8:=Qtx n 16 [48,120]
def u8v (l:List UInt8):List Value:=l.map λb=>.int .u8 (b.toNat:Int)
theorem QjU (l:List UInt8):(u8v l).length=l.length:=by simp[u8v]
theorem QCa (b:UInt8):(b.toNat:Int).toNat.toUInt8=b:=by simp
theorem Qgv:∀l:List UInt8,ZS (u8v l)=some l
 | []=>rfl
 | b::l=>by
  show(ZS (u8v l)).map ((b.toNat:Int).toNat.toUInt8::·)=_;rw[Qgv l,QCa];rfl
theorem QCb (l:List UInt8):(u8v l).all (·.oneCell')=true:=by
 rw[Li];intro v hv;obtain⟨b,_,rfl⟩:=N4.1 hv;rfl
theorem Qty {c l:List Value} {i:Nat} {v:Value} (hi:i<c.length) (hd:c.drop (i+1)=l):(splice c i [v]).drop i=v::l:=by
 unfold splice;rw[RF (by simp;omega),NR (by simp;omega)];simp[hd]
theorem QDj:∀d,d<36->([48,49,50,51,52,53,54,55,56,57,97,98,99,100,101,102,103,104,105,106,107,108,109,110,111,112,113,114,115,116,117,118,119,120,121,122]:List UInt8)[d]? = some (Qoo d):=by decide
theorem QFo {u:Nat} (h:u<18446744073709551616):IntKind.u64.wrap ((BitVec.ofInt IntKind.u64.bits (u:Int) &&& BitVec.ofInt IntKind.u64.bits 15).toNat)=((u % 16:Nat):Int):=by
 have e:(BitVec.ofInt IntKind.u64.bits (u:Int) &&& BitVec.ofInt IntKind.u64.bits 15).toNat=u % 16:=by
  have hb:IntKind.u64.bits=64:=rfl;rw[FK,B7,B7,hb];have h1:((u:Int) % ((2 ^ 64:Nat):Int)).toNat=u:=by omega
  have h2:((15:Int) % ((2 ^ 64:Nat):Int)).toNat=2 ^ 4 - 1:=rfl;rw[h1,h2,Nat.and_two_pow_sub_one_eq_mod]
 rw[e,QGj (by omega) (by omega)]
theorem QGk (u:Nat):(u:Int).fdiv (2 ^ (min (4:Int).toNat IntKind.u64.bits))=((u / 16:Nat):Int):=by
 have e:(2:Int) ^ (min (4:Int).toNat IntKind.u64.bits)=16:=rfl;rw[e,Np _ (by decide)];rfl
structure Tq (T:Qa->Prop):Prop where
 ext:∀H H',H.Wf->T H->Ext H H'->T H'
 tz:∀H,T H->Qg prog XK [.int .u64 16] H λu H'=>u=.int .i64 4∧H'=H
theorem QCc (H:Qa):Qg prog Ym [.int .i64 16] H λu H'=>u=.bool true∧H'=H:=
 QqN (by kernel_rfl) rfl rfl (by kernel_rfl) H
theorem QrF {T:Qa->Prop} (hT:Tq T) (u0:Nat) (hu:u0<18446744073709551616) (H:Qa) (hTH:T H):
  Qg prog W7 [.slice none 0 0,.int .u64 (u0:Int),.int .i64 16,.bool false,.bool false] H λv H'=>v=.tuple #[.slice none 0 0,.string (mkS (dgs 16 u0))]∧Ext H H':=by
 refine Vd λhw=>?_;have e1:decide ((16:Int)<2)=false:=rfl;have e2:((16:Int)==10)=false:=rfl;have e3:decide ((36:Int)<16)=false:=rfl;simp only[YA,XE,X9,sxA,sxB,Nat.reduceBEq,Nat.reduceEqDiff,reduceCtorEq,mxA,mxB,Nat.reduceAdd,reduceIte,Nat.reduceLeDiff,splice,e1,e2,e3];generalize hz:([.int .u8 0,.int .u8 0,.int .u8 0,.int .u8 0,.int .u8 0,.int .u8 0,.int .u8 0,.int .u8 0,.int .u8 0,.int .u8 0,.int .u8 0,.int .u8 0,.int .u8 0,.int .u8 0,.int .u8 0,.int .u8 0,.int .u8 0,.int .u8 0,.int .u8 0,.int .u8 0,.int .u8 0,.int .u8 0,.int .u8 0,.int .u8 0,.int .u8 0,.int .u8 0,.int .u8 0,.int .u8 0,.int .u8 0,.int .u8 0,.int .u8 0,.int .u8 0,.int .u8 0,.int .u8 0,.int .u8 0,.int .u8 0,.int .u8 0,.int .u8 0,.int .u8 0,.int .u8 0,.int .u8 0,.int .u8 0,.int .u8 0,.int .u8 0,.int .u8 0,.int .u8 0,.int .u8 0,.int .u8 0,.int .u8 0,.int .u8 0,.int .u8 0,.int .u8 0,.int .u8 0,.int .u8 0,.int .u8 0,.int .u8 0,.int .u8 0,.int .u8 0,.int .u8 0,.int .u8 0,.int .u8 0,.int .u8 0,.int .u8 0,.int .u8 0,.int .u8 0]:List Value)=c0;have hc0:c0.length=65:=by rw[<- hz];rfl
 clear hz;refine(QCc _).thenW ?_;rintro _ H1 _ hw1 ⟨rfl,h1⟩;obtain⟨e,h1⟩:∃e,H1=H.push (.cells c0 e false):=⟨_,h1⟩;have hx1:Ext H H1:=by rw[h1];exact(Ext.refl H).push _
 have hg1:H1.get H.next=some (.cells c0 e false):=by rw[h1,Qd,Lc rfl]
 have hn1:H1.next=H.next+1:=by rw[h1,Qe]
 clear h1;simp only[X8,sxA,sxB,Nat.reduceBEq,Nat.reduceEqDiff,reduceCtorEq,mxA,mxB,Nat.reduceAdd,reduceIte,Nat.reduceLeDiff,splice,show IntKind.u64.wrap 16=16 from rfl,show IntKind.u64.wrap (16 - 1)=15 from rfl];refine(hT.tz _ (hT.ext _ _ hw hTH hx1)).thenW ?_;rintro _ H2 _ hw2 ⟨rfl,rfl⟩;simp only[sxA,sxB,Nat.reduceBEq,Nat.reduceEqDiff,reduceCtorEq,mxA,mxB,Nat.reduceAdd,reduceIte,Nat.reduceLeDiff,splice,show IntKind.u64.wrap 4=4 from rfl];refine QB (λm A' H'=>∃ (u:Nat) (suf:List UInt8) (c:List Value),u=m∧u<18446744073709551616∧u * 16 ^ suf.length<18446744073709551616∧Ext H H'∧H'.next=H.next+1∧H'.Wf∧H'.get H.next=some (.cells c e false)∧c.length=65∧(0<u∨suf=[])∧c.drop (65 - suf.length)=u8v suf∧dgs 16 u++suf=dgs 16 u0∧A' 1=.int .u64 (u:Int)∧A' 3=.bool false∧A' 4=.bool false∧A' 12=.pointer (some ⟨H.next,0,none⟩)∧A' 13=.int .i64 ((65 - suf.length:Nat):Int)∧A' 10=.slice none 0 0∧A' 14=.int .u64 4∧A' 15=.int .u64 16∧A' 16=.int .u64 15) u0 ?_ ?_
 ·refine⟨u0,[],c0,rfl,hu,by simpa using hu,hx1,hn1,hw2,hg1,hc0,.inr rfl,by simp[hc0,u8v],by simp,?_,?_,?_,?_,?_,?_,?_,?_,?_⟩
  all_goals simp only[uxA,uxB,Nat.reduceBEq]
  all_goals rfl
 ·rintro m A' H' ⟨u,suf,c,rfl,hu1,hp,hx,hn,hw',hg,hcl,hs,hcd,hd,r1,r3,r4,r12,r13,r10,r14,r15,r16⟩;have hs15:suf.length<=15:=by
   rcases hs with h | h
   ·rcases Nq suf.length 16 with h1 | h1
    ·omega
    ·have h2:16 ^ 16<=16 ^ suf.length:=NP (by decide) h1;have h3:16 ^ suf.length<=u * 16 ^ suf.length:=Fg _ h;omega
   ·rw[h];simp
  have ei:IntKind.i64.wrap (((65 - suf.length:Nat):Int) - 1)=((65 - (suf.length+1):Nat):Int):=by rw[w64 (by unfold I64;omega)];omega
  have hi:65 - (suf.length+1)<c.length:=by omega
  have hd1:c.drop (65 - (suf.length+1)+1)=u8v suf:=by rw[show 65 - (suf.length+1)+1=65 - suf.length by omega];exact hcd
  have wr:∀b:UInt8,(splice c (65 - (suf.length+1)) [.int .u8 (b.toNat:Int)]).drop (65 - (suf.length+1))=u8v (b::suf):=λb=>Qty hi hd1;have wl:∀v:Value,(splice c (65 - (suf.length+1)) [v]).length=65:=λv=>by rw[QcS (by simp;omega)];exact hcl
  have hle:65 - (suf.length+1)+1<=c.length:=by omega
  have hset:∀c',Ext H (H'.set H.next (.cells c' e false)):=λc'=>hx.set (Lb _) _;generalize hio:65 - (suf.length+1)=io at *
  by_cases h16:16<=u
  ·have e4:decide ((16:Int)<=(u:Int))=true:=Lp (by omega);have hm:u % 16<36:=by omega
   have t1:((u % 16:Nat):Int).toNat=u % 16:=LG _;have t2:(0:Int)<=((u % 16:Nat):Int):=Nz _;have t3:(0:Int)<=4:=by decide
   simp only[WK,X7,sxA,sxB,Nat.reduceBEq,Nat.reduceEqDiff,reduceCtorEq,mxA,mxB,Nat.reduceAdd,reduceIte,Nat.reduceLeDiff,splice,r1,r3,r4,r12,r13,r10,r14,r15,r16,e4,ei,QFo hu1,Qgh,VN,t1,t2,QDj _ hm];rw[QqF (n:=65) (size:=1) (b:=H.next) (o:=0) (i:=io) (ik:=.i64) (by kernel_rfl) (by simp only[uxA,uxB,Nat.reduceBEq,r12]) (by simp only[uxA,uxB,Nat.reduceBEq]) (by omega)];simp only[sxA,sxB,Nat.reduceBEq,Nat.reduceEqDiff,reduceCtorEq,mxA,mxB,Nat.reduceAdd,reduceIte,Nat.reduceLeDiff,hg,r1,r14,QGk,t3,hle];refine⟨u / 16,by omega,u / 16,Qoo (u % 16)::suf,splice c io [.int .u8 ((Qoo (u % 16)).toNat:Int)],rfl,by omega,?_,hset _,hn,hw'.set hg _,by rw[Qn,Lc rfl],wl _,.inl (by omega),?_,?_,?_,?_,?_,?_,?_,?_,?_,?_,?_⟩
   ·rw[Lo,Fc];have h1:u / 16 * 16<=u:=Nat.div_mul_le_self u 16;have h2:u / 16 * 16 * 16 ^ suf.length<=u * 16 ^ suf.length:=Bs _ h1;have h3:u / 16 * (16 ^ suf.length * 16)=u / 16 * 16 * 16 ^ suf.length:=by rw[Hv (16 ^ suf.length) 16,Nat.mul_assoc]
    omega
   ·rw[Lo,hio];exact wr _
   ·rw[<- hd,QiO (u:=u) h16 (by decide),LQ];rfl
   all_goals simp only[uxA,uxB,Nat.reduceBEq,r1,r3,r4,r12,r13,r10,r14,r15,r16]
   rw[Lo,hio]
  ·have e4:decide ((16:Int)<=(u:Int))=false:=Lj (by omega);have t1:(u:Int).toNat=u:=LG _;have t2:(0:Int)<=(u:Int):=Nz _;simp only[WK,sxA,sxB,Nat.reduceBEq,Nat.reduceEqDiff,reduceCtorEq,mxA,mxB,Nat.reduceAdd,reduceIte,Nat.reduceLeDiff,splice,r1,r3,r4,r12,r13,r10,r14,r15,r16,e4,ei,Qgh,VN,t1,t2,QDj u (by omega)];rw[QqF (n:=65) (size:=1) (b:=H.next) (o:=0) (i:=io) (ik:=.i64) (by kernel_rfl) (by simp only[uxA,uxB,Nat.reduceBEq,r12]) (by simp only[uxA,uxB,Nat.reduceBEq]) (by omega)];simp only[sxA,sxB,Nat.reduceBEq,Nat.reduceEqDiff,reduceCtorEq,mxA,mxB,Nat.reduceAdd,reduceIte,Nat.reduceLeDiff,hg,r3,hle,X6,X5,r4];rw[Qyv (n:=65) (size:=1) (b:=H.next) (o:=0) (l:=io) (h:=65) (by kernel_rfl) (by simp only[uxA,uxB,Nat.reduceBEq,r12]) (.inl (by simp only[QS,uxA,uxB,Nat.reduceBEq])) (.inr ⟨rfl,rfl⟩) (by omega) (by omega) (by unfold UNK;decide)];simp only[sxA,sxB,Nat.reduceBEq,Nat.reduceEqDiff,reduceCtorEq];have hfin:u8v (Qoo u::suf)=u8v (dgs 16 u0):=by rw[<- hd,Qgu (by omega)];rfl
   rw[Qyu (n:=65 - io) (c:=65 - io) (a:=some ⟨H.next,0+io * 1,none⟩) (vs:=u8v (dgs 16 u0)) (bs:=dgs 16 u0) (by kernel_rfl) (by simp only[uxA,uxB,Nat.reduceBEq]) (by
    simp only[Qa5];rw[Le (by omega),Qn,Lc rfl];simp only[];rw[Lc (by rw[wl];omega)];simp only[LP,NH];rw[wr,hfin,LF];rw[<- hfin,QjU,Lo];omega) (Qgv _)]
   simp only[sxA,sxB,Nat.reduceBEq,Nat.reduceEqDiff,reduceCtorEq,Gi,r10];exact .mk (by rw[QE];omega) ⟨rfl,hset _⟩
theorem Qgw {T:Qa->Prop} (hT:Tq T) (u:Nat) (hu:u<18446744073709551616) (H:Qa) (hTH:T H):Qg prog X2 [.int .u64 (u:Int),.int .i64 16] H λv H'=>v=.string (mkS (dgs 16 u))∧Ext H H':=by
 refine QfV λhw=>?_;simp only[Gt,sxA,sxB,Nat.reduceBEq,Nat.reduceEqDiff,reduceCtorEq,mxA,mxB,Nat.reduceAdd,reduceIte,Nat.reduceLeDiff,splice];have h2:Qg prog W6 [.int .u64 (u:Int),.int .i64 16] H λv H'=>v=.string (mkS (dgs 16 u))∧Ext H H':=by
  refine Vc λhw=>?_;have e2:((16:Int)==10)=false:=rfl;simp only[Yy,sxA,sxB,Nat.reduceBEq,Nat.reduceEqDiff,reduceCtorEq,mxA,mxB,Nat.reduceAdd,reduceIte,Nat.reduceLeDiff,splice,e2];refine(QrF hT u hu H hTH).thenW ?_;rintro _ H1 _ hw1 ⟨rfl,hx⟩;simp only[sxA,sxB,Nat.reduceBEq,Nat.reduceEqDiff,reduceCtorEq,mxA,mxB,Nat.reduceAdd,reduceIte,Nat.reduceLeDiff,splice,K3];exact .mk hx.next ⟨rfl,hx⟩
 refine h2.thenW ?_;rintro _ H1 _ hw1 ⟨rfl,hx⟩;simp only[sxA,sxB,Nat.reduceBEq,Nat.reduceEqDiff,reduceCtorEq,mxA,mxB,Nat.reduceAdd,reduceIte,Nat.reduceLeDiff,splice,QeM];exact .mk hx.next ⟨rfl,hx⟩
theorem Qls:∀ (n u:Nat),u<16 ^ (n+1)->(dgs 16 u).length<=n+1
 | 0,u,h=>by rw[Qgu (by omega)];simp
 | n+1,u,h=>by
  by_cases h16:16<=u
  ·rw[QiO h16 (by decide),Lh];have:=Qls n (u / 16) (by rw[Fc]at h;omega);simp only[Lo,L9];omega
  ·rw[Qgu (by omega)];simp
theorem Qc8 {T:Qa->Prop} (hT:Tq T) (n:Int) (hn:I64 n) (H:Qa) (hTH:T H):Qg prog Xr [.int .i64 n] H λv H'=>v=.string (mkS (Kg n))∧Ext H H':=by
 refine Qob λhw=>?_;have hnat:n.natAbs<18446744073709551616:=by unfold I64 at hn;omega
 have hlen:(dgs 16 n.natAbs).length<=16:=Qls 15 _ hnat;unfold I64 at hn
 by_cases h:n<0
 ·have eu:IntKind.u64.wrap (-(IntKind.u64.wrap n))=(n.natAbs:Int):=by rw[NC,NC];omega
  simp only[Qbh,sxA,sxB,Nat.reduceBEq,Nat.reduceEqDiff,reduceCtorEq,mxA,mxB,Nat.reduceAdd,reduceIte,Nat.reduceLeDiff,splice,Lp h];rw[Qtt (ik:=.u64) (n:=IntKind.u64.wrap n) (by simp only[uxA,uxB,Nat.reduceBEq])];simp only[sxA,sxB,Nat.reduceBEq,Nat.reduceEqDiff,reduceCtorEq,mxA,mxB,Nat.reduceAdd,reduceIte,Nat.reduceLeDiff,splice,eu];refine(Qgw hT _ hnat H hTH).thenW ?_;rintro _ H1 _ hw1 ⟨rfl,hx⟩;simp only[sxA,sxB,Nat.reduceBEq,Nat.reduceEqDiff,reduceCtorEq,mxA,mxB,Nat.reduceAdd,reduceIte,Nat.reduceLeDiff,splice,syA,Qfe];exact⟨by omega,.mk hx.next ⟨by simp[Kg,Qtx,h],hx⟩⟩
 ·have eu:IntKind.u64.wrap n=(n.natAbs:Int):=by rw[NC];omega
  simp only[Qbh,sxA,sxB,Nat.reduceBEq,Nat.reduceEqDiff,reduceCtorEq,mxA,mxB,Nat.reduceAdd,reduceIte,Nat.reduceLeDiff,splice,Lj h,eu];refine(Qgw hT _ hnat H hTH).thenW ?_;rintro _ H1 _ hw1 ⟨rfl,hx⟩;simp only[sxA,sxB,Nat.reduceBEq,Nat.reduceEqDiff,reduceCtorEq,mxA,mxB,Nat.reduceAdd,reduceIte,Nat.reduceLeDiff,splice,syA,Qfe];exact⟨by omega,.mk hx.next ⟨by simp[Kg,Qtx,h],hx⟩⟩
theorem QpJ (s:List UInt8) (c:UInt8) (H:Qa):Qg prog Wb [.string (mkS s),.int .u8 (c.toNat:Int)] H λu H'=>u=.int .i64 (Lib.indexByte s c)∧H'=H:=by
 refine Kf λhw=>?_;simp only[XF,sxA,sxB,Nat.reduceBEq,Nat.reduceEqDiff,reduceCtorEq,mxA,mxB,Nat.reduceAdd,reduceIte,Nat.reduceLeDiff,splice];refine QqH QhY (v:=.int .i64 (Lib.indexByte s c)) (by simp[Xk.val]) ?_;simp only[sxA,sxB,Nat.reduceBEq,Nat.reduceEqDiff,reduceCtorEq,mxA,mxB,Nat.reduceAdd,reduceIte,Nat.reduceLeDiff,splice,JN];exact .mk (Lb _) ⟨rfl,rfl⟩
theorem Qz4 (s:List UInt8) (c:UInt8) (H:Qa):Qg prog VU [.string (mkS s),.string (mkS [c])] H λu H'=>u=.int .i64 (Lib.indexByte s c)∧H'=H:=by
 refine Qlp λhw=>?_;simp only[Qds,sxA,sxB,Nat.reduceBEq,Nat.reduceEqDiff,reduceCtorEq,mxA,mxB,Nat.reduceAdd,reduceIte,Nat.reduceLeDiff,splice];have h2:Qg prog Xg [.string (mkS s),.string (mkS [c])] H λu H'=>u=.int .i64 (Lib.indexByte s c)∧H'=H:=by
  refine VF λhw=>?_;have e1:(((1:Nat):Int)==0)=false:=rfl;have e2:(((1:Nat):Int)==1)=true:=rfl;have e3:(([c]:List UInt8)==([]:List UInt8))=false:=rfl;have t0:(0:Int)<=0:=by decide
  have u0:(0:Int).toNat=0:=rfl;simp only[YL,X4,sxA,sxB,Nat.reduceBEq,Nat.reduceEqDiff,reduceCtorEq,mxA,mxB,Nat.reduceAdd,reduceIte,Nat.reduceLeDiff,splice,QaY,VN,Qgh,e1,e2,e3,t0,u0];cases hs:([c]:List UInt8)==s with
  | true=>
   have hs2:s=[c]:=(L0.1 hs).symm;subst hs2;have hz:Lib.indexByte [c] c=0:=by simp[Lib.indexByte]
   simp only[sxA,sxB,Nat.reduceBEq,Nat.reduceEqDiff,reduceCtorEq,mxA,mxB,Nat.reduceAdd,reduceIte,Nat.reduceLeDiff,splice,Yz];exact .mk (Lb _) ⟨by rw[hz],rfl⟩
  | false=>
   simp only[sxA,sxB,Nat.reduceBEq,Nat.reduceEqDiff,reduceCtorEq,mxA,mxB,Nat.reduceAdd,reduceIte,Nat.reduceLeDiff,splice,QaY,VN,Qgh,e2,t0,u0];refine(QpJ s c H).thenW ?_;rintro _ H1 _ hw1 ⟨rfl,rfl⟩;simp only[sxA,sxB,Nat.reduceBEq,Nat.reduceEqDiff,reduceCtorEq,mxA,mxB,Nat.reduceAdd,reduceIte,Nat.reduceLeDiff,splice,Yz];exact .mk (Lb _) ⟨rfl,rfl⟩
 refine h2.thenW ?_;rintro _ H1 _ hw1 ⟨rfl,rfl⟩;simp only[sxA,sxB,Nat.reduceBEq,Nat.reduceEqDiff,reduceCtorEq,mxA,mxB,Nat.reduceAdd,reduceIte,Nat.reduceLeDiff,splice,QjQ];exact .mk (Lb _) ⟨rfl,rfl⟩
def XO:List UInt8->List (List UInt8)
 | []=>[[]]
 | c::l=>if c=32 then[]::XO l else match XO l with
  | w::ws=>(c::w)::ws
  | []=>[[c]]
theorem Qmx:∀l:List UInt8,(∀c∈l,c≠32)->XO l=[l]
 | [],_=>rfl
 | c::l,h=>by
  rw[XO,Le (h c (by simp)),Qmx l λd hd=>h d (by simp[hd])]
theorem Qop:∀a b:List UInt8,(∀c∈a,c≠32)->XO (a++32::b)=a::XO b
 | [],b,_=>by simp[XO]
 | c::a,b,h=>by
  rw[Nm,XO,Le (h c (by simp)),Qop a b λd hd=>h d (by simp[hd])]
theorem Qz5 {s:List UInt8} {c:UInt8} (h:Lib.indexByte s c<0):∀d∈s,d≠c:=by
 have h1:Lib.indexByte s c=-1:=by have:=Lib.indexByte_ge s c;omega
 intro d hd hdc;obtain⟨k,hk⟩:=Bx.1 hd;exact Lib.indexByte_none h1 k (by rw[hk,hdc])
theorem Qz6 {s:List UInt8} {c:UInt8} {o:Nat} (h:Lib.indexByte s c=o):o<s.length∧s=s.take o++c::s.drop (o+1)∧∀d∈s.take o,d≠c:=by
 obtain⟨h1,h2⟩:=Lib.indexByte_some h;have ho:o<s.length:=(Lk.1 h1).1;refine⟨ho,?_,λd hd hdc=>?_⟩
 ·have:s.drop o=c::s.drop (o+1):=by
   rw[Nh ho];congr 1;rw[La ho]at h1;exact Ly h1
  rw[<- this,NW]
 ·obtain⟨k,hk⟩:=Bx.1 hd;rw[Nl]at hk;split at hk
  ·rename_i hko;exact h2 k hko (by rw[hk,hdc])
  ·cases hk
def Qtz (l:List (List UInt8)):List Value:=l.map λw=>.string (mkS w)
theorem Qz7 {l:List (List UInt8)} {i:Nat} {w:List UInt8} (h:l[i]? = some w):(Qtz l)[i]? = some (.string (mkS w)):=by simp[Qtz,h]
def Gs (size:Nat) (e:TypeId) (H0 H:Qa) (v:Value) (n:Nat) (cs:List Value):Prop:=(v=.slice none 0 0∧n=0∧cs=[])∨∃b,v=.slice (some ⟨b,0,none⟩) n (UNK+size)∧H0.next<=b∧H.get b=some (.cells cs e false)∧cs.length=n * size
def Qcc (v:Value) (id:Nat):Prop:=∃o n c,v=.slice (some ⟨id,o,none⟩) n c
theorem Gs.ext {size:Nat} {e:TypeId} {H0 H H':Qa} {v:Value} {n:Nat} {cs:List Value} (h:Gs size e H0 H v n cs) (hk:∀id,Qcc v id->H'.get id=H.get id):Gs size e H0 H' v n cs:=by
 rcases h with h | ⟨b,rfl,h2,h3,h4⟩
 ·exact .inl h
 ·exact .inr ⟨b,rfl,h2,by rw[hk b ⟨_,_,_,rfl⟩];exact h3,h4⟩
theorem Gs.low {size:Nat} {e:TypeId} {H0 H:Qa} {v:Value} {n:Nat} {cs:List Value} (h:Gs size e H0 H v n cs) (hw:H.Wf) {id:Nat} (hi:Qcc v id):H0.next<=id∧id<H.next:=by
 obtain⟨o,n',c,rfl⟩:=hi;rcases h with⟨h,_,_⟩ | ⟨b,h,h2,h3,h4⟩
 ·cases h
 ·cases h;exact⟨h2,hw.lt h3⟩
theorem QD9 {size:Nat} {e bytes:Nat} {H0 H:Qa} {v x:Value} {n m:Nat} {cs ms:List Value} {k:Value->Qa->Prop} (hs:Gs size e H0 H v n cs) (hx:Ext H0 H) (hw:H.Wf) (hsrc:ZQ size x H=some (m,ms)) (hone:ms.all (·.oneCell')=true) (hm:1<=m) (hml:ms.length=m * size) (hb:(n+m) * bytes<=140737488355328) (hn:n+m<=9223372036854775807)
  (h:∀v' H',Gs size e H0 H' v' (n+m) (cs++ms)->Ext H0 H'->H'.Wf->(∀id,id<H.next->¬Qcc v id->H'.get id=H.get id)->H'.next=H.next+1->(∀id,Qcc v' id->id=H.next)->k v' H'):Qeu e size bytes v x H k:=by
 have hnn:=hx.next;rcases hs with⟨rfl,rfl,rfl⟩ | ⟨b,rfl,h2,h3,h4⟩
 ·refine QjN hsrc hone (by omega) (by rw[LP]at hb;exact hb) (by omega) (h _ _ (.inr ⟨H.next,by rw[LP],hnn,by rw[Qd,Lc rfl,LH],by rw[LH,LP];exact hml⟩) (hx.push _) (hw.push _) (λid hid _=>by rw[Qd,Le (by omega)]) (by rw[Qe]) ?_);rintro id ⟨o,n',c,he⟩;cases he;rfl
 ·have hbl:=hw.lt h3;refine Qoa rfl hsrc hone (by omega) h3 (by rw[LP];omega) hb hn (by omega) (h _ _ (.inr ⟨H.next,rfl,hnn,?_,by rw[Lh,h4,hml,Ry]⟩) ?_ ?_ ?_ (by rw[Qe,VM]) ?_)
  ·rw[Qd,VM,Lc rfl,Lw]
  ·refine⟨by rw[Qe,VM];omega,λid hid=>?_⟩;rw[Qd,VM,Le (by omega),Wd,Le (by omega)];exact hx.get id hid
  ·exact(hw.kill b).push _
  ·intro id hid hnb;have hne:¬id=b:=λh=>hnb ⟨_,_,_,by rw[h]⟩;rw[Qd,VM,Le (by omega),Wd,Le hne]
  ·rintro id ⟨o,n',c,he⟩;cases he;rfl
structure BAt (H0 H:Qa) (D:Nat) (l:List UInt8) (p v:Value):Prop where
 get:H.get D=some (.cells [p,v] X3 false)
 ptr:p=.pointer none∨p=.pointer (some ⟨D,0,none⟩)
 gs:Gs 1 5 H0 H v l.length (u8v l)
 low:H0.next<=D
 apart:¬Qcc v D
 wf:H.Wf
 ext:Ext H0 H
theorem QtA {H0 H:Qa} {D:Nat} {l:List UInt8} {p v:Value} (hb:BAt H0 H D l p v):Qg prog Xn [.pointer (some ⟨D,0,none⟩)] H λu H'=>u=.tuple #[]∧BAt H0 H' D l (.pointer (some ⟨D,0,none⟩)) v∧H'.next=H.next∧∀id,id≠D->H'.get id=H.get id:=by
 refine V9 λhw=>?_;obtain⟨hg,hp,hgs,hlow,hap,hwf,hx⟩:=hb;simp only[Y4,sxA,sxB,Nat.reduceBEq,Nat.reduceEqDiff,reduceCtorEq,mxA,mxB,Nat.reduceAdd,reduceIte,Nat.reduceLeDiff,splice,Jg,hg];rcases hp with rfl | rfl
 ·rw[QqG (a:=none) (by kernel_rfl) (by simp only[uxA,uxB,Nat.reduceBEq])];simp only[sxA,sxB,Nat.reduceBEq,Nat.reduceEqDiff,reduceCtorEq,mxA,mxB,Nat.reduceAdd,reduceIte,Nat.reduceLeDiff,splice,RV];rw[QzY (b:=D) (o:=0) (by kernel_rfl) (by simp only[uxA,uxB,Nat.reduceBEq]) hg (by simp)];simp only[sxA,sxB,Nat.reduceBEq,Nat.reduceEqDiff,reduceCtorEq,mxA,mxB,Nat.reduceAdd,reduceIte,Nat.reduceLeDiff,splice];refine QqH QjT (args:=[.pointer (some ⟨D,0,none⟩)]) (v:=.pointer (some ⟨D,0,none⟩)) rfl ?_;simp only[sxA,sxB,Nat.reduceBEq,Nat.reduceEqDiff,reduceCtorEq,mxA,mxB,Nat.reduceAdd,reduceIte,Nat.reduceLeDiff,splice];rw[QvG (b:=D) (o:=0) (by kernel_rfl) (by simp only[uxA,uxB,Nat.reduceBEq]) hg];simp only[sxA,sxB,Nat.reduceBEq,Nat.reduceEqDiff,reduceCtorEq,mxA,mxB,Nat.reduceAdd,reduceIte,Nat.reduceLeDiff,splice,Jg,hg,Qoi,Qmu,YK];refine .mk (by rw[QE];exact Lb _) ⟨rfl,⟨by rw[Qn,Lc rfl],.inr rfl,hgs.ext λid hid=>?_,hlow,hap,hwf.set hg _,hx.set hlow _⟩,by rw[QE],λid hid=>by rw[Qn,Le hid]⟩;have:id≠D:=λh=>hap (by rw[<- h];exact hid);rw[Qn,Le this]
 ·rw[QqG (a:=some ⟨D,0,none⟩) (by kernel_rfl) (by simp only[uxA,uxB,Nat.reduceBEq])];simp only[sxA,sxB,Nat.reduceBEq,Nat.reduceEqDiff,reduceCtorEq,mxA,mxB,Nat.reduceAdd,reduceIte,Nat.reduceLeDiff,splice,Ff,Jg,hg];rw[Qyw (b:=D) (o:=0) (by kernel_rfl) (by simp only[uxA,uxB,Nat.reduceBEq]) (by simp only[uxA,uxB,Nat.reduceBEq])];simp only[sxA,sxB,Nat.reduceBEq,Nat.reduceEqDiff,reduceCtorEq,mxA,mxB,Nat.reduceAdd,reduceIte,Nat.reduceLeDiff,splice,YK];exact .mk (Lb _) ⟨rfl,⟨hg,.inr rfl,hgs,hlow,hap,hwf,hx⟩,rfl,λ_ _=>rfl⟩
structure J6 (D:Nat) (v v':Value) (H H':Qa):Prop where
 next:H.next<=H'.next
 keep:∀id,id<H.next->id≠D->¬Qcc v id->H'.get id=H.get id
 new:∀id,Qcc v' id->Qcc v id∨H.next<=id
theorem J6.refl (D:Nat) (v:Value) (H:Qa):J6 D v v H H:=⟨Lb _,λ_ _ _ _=>rfl,λ_ h=>.inl h⟩
theorem J6.trans {D:Nat} {v v' v'':Value} {H H' H'':Qa} (h:J6 D v v' H H') (h':J6 D v' v'' H' H''):J6 D v v'' H H'':=by
 have n1:=h.next;have n2:=h'.next;refine⟨by omega,λid h1 h2 h3=>?_,λid hi=>?_⟩
 ·rw[h'.keep id (by omega) h2 (λhi=>?_)]
  ·exact h.keep id h1 h2 h3
  ·rcases h.new id hi with h4 | h4
   ·exact h3 h4
   ·omega
 ·rcases h'.new id hi with h4 | h4
  ·exact h.new id h4
  ·exact .inr (by omega)
theorem J6.pre {D:Nat} {v v':Value} {H H1 H':Qa} (hx:Ext H H1) (h:J6 D v v' H1 H'):J6 D v v' H H':=by
 have n0:=hx.next;have n1:=h.next;exact⟨by omega,λid h1 h2 h3=>by rw[h.keep id (by omega) h2 h3];exact hx.get id h1,λid hi=>by rcases h.new id hi with h4 | h4;exact .inl h4;exact .inr (by omega)⟩
theorem J6.post {D:Nat} {v v':Value} {H H1 H':Qa} (h:J6 D v v' H H1) (hx:Ext H1 H'):J6 D v v' H H':=by
 have n0:=hx.next;have n1:=h.next;exact⟨by omega,λid h1 h2 h3=>by rw[hx.get id (by omega)];exact h.keep id h1 h2 h3,h.new⟩
theorem BAt.go {H0 H H':Qa} {D:Nat} {l:List UInt8} {p v:Value} (h:BAt H0 H D l p v) (hx:Ext H H') (hw:H'.Wf):BAt H0 H' D l p v:=by
 have hn:=hx.next;have hn0:=h.ext.next;refine⟨by rw[hx.get _ (h.wf.lt h.get)];exact h.get,h.ptr,h.gs.ext λid hid=>hx.get id (h.gs.low h.wf hid).2,h.low,h.apart,hw,⟨by omega,λid hid=>by rw[hx.get id (by omega)];exact h.ext.get id hid⟩⟩
def Qmy (H0 H:Qa) (D:Nat) (l:List UInt8) (v:Value) (H':Qa):Prop:=∃p' v',BAt H0 H' D l p' v'∧J6 D v v' H H'
theorem QCd {H0 H:Qa} {D:Nat} {l m:List UInt8} {v x:Value} {k:Value->Qa->Prop} (hb:BAt H0 H D l (.pointer (some ⟨D,0,none⟩)) v) (hsrc:ZQ 1 x H=some (m.length,u8v m)) (hl:l.length+m.length<=140737488355328)
  (h:∀v' H',H'.get D=some (.cells [.pointer (some ⟨D,0,none⟩),v] X3 false)->BAt H0 (H'.set D (.cells [.pointer (some ⟨D,0,none⟩),v'] X3 false)) D (l++m) (.pointer (some ⟨D,0,none⟩)) v'->(∃b n c,v'=.slice b n c)->H.next<=H'.next->J6 D v v' H (H'.set D (.cells [.pointer (some ⟨D,0,none⟩),v'] X3 false))->k v' H'):Qeu 5 1 1 v x H k:=by
 have hb0:=hb;obtain⟨hg,hp,hgs,hlow,hap,hwf,hx⟩:=hb;have hD:=hwf.lt hg
 by_cases hm:1<=m.length
 ·refine QD9 hgs hx hwf hsrc (QCb m) hm (by rw[QjU];omega) (by omega) (by omega) ?_;intro v' H' hgs' hx' hw' hk hn hnew;have hgD:H'.get D=some (.cells [.pointer (some ⟨D,0,none⟩),v] X3 false):=by rw[hk D hD hap];exact hg
  have hapD:¬Qcc v' D:=λhi=>by have:=hnew D hi;omega
  refine h v' H' hgD ⟨by rw[Qn,Lc rfl],.inr rfl,?_,hlow,hapD,hw'.set hgD _,hx'.set hlow _⟩ ?_ (by omega) ⟨by rw[QE];omega,λid h1 h2 h3=>by rw[Qn,Le h2];exact hk id h1 h3,λid hi=>.inr (by have:=hnew id hi;omega)⟩
  ·have e1:u8v (l++m)=u8v l++u8v m:=by simp[u8v]
   rw[e1,Lh];refine hgs'.ext λid hid=>?_;have:id≠D:=λh=>hapD (by rw[<- h];exact hid);rw[Qn,Le this]
  ·rcases hgs' with⟨_,h0,_⟩ | ⟨b,hb,_⟩
   ·omega
   ·exact⟨_,_,_,hb⟩
 ·have hm0:m=[]:=N2.1 (by omega);subst hm0;have hsl:∃b n c,v=.slice b n c:=by
   rcases hgs with⟨rfl,_⟩ | ⟨b,hb,_⟩
   ·exact⟨_,_,_,rfl⟩
   ·exact⟨_,_,_,hb⟩
  have hap0:YN 5 1 1 v x H=some (v,H):=by
   unfold YN;rw[hsrc];rcases hgs with⟨rfl,_⟩ | ⟨b,hb,_⟩
   ·rfl
   ·subst hb;simp only[u8v,Bq,BI,N3,L9];rw[Lc (.inl (Ro _ _))]
  unfold Qeu;rw[hap0,QH];have hset:(H.set D (.cells [.pointer (some ⟨D,0,none⟩),v] X3 false)).get=H.get:=by
   funext id;rw[Qn];split
   ·rename_i e;rw[e];exact hg.symm
   ·rfl
  refine h v H hg ?_ hsl (Lb _) ⟨by rw[QE];omega,λid h1 h2 h3=>by rw[Qn,Le h2],λid hi=>.inl hi⟩;rw[Na];exact⟨by rw[hset];exact hg,hp,hgs.ext λid _=>by rw[hset],hlow,hap,hwf.set hg _,hx.set hlow _⟩
theorem QpK {H0 H:Qa} {D:Nat} {l m:List UInt8} {p v:Value} (hb:BAt H0 H D l p v) (hl:l.length+m.length<=140737488355328):Qg prog W5 [.pointer (some ⟨D,0,none⟩),.string (mkS m)] H λu H'=>(∃x y,u=.tuple #[x,y])∧Qmy H0 H D (l++m) v H':=by
 refine Vb λhw=>?_;simp only[Yx,sxA,sxB,Nat.reduceBEq,Nat.reduceEqDiff,reduceCtorEq,mxA,mxB,Nat.reduceAdd,reduceIte,Nat.reduceLeDiff,splice];refine(QtA hb).thenW ?_;rintro _ H1 _ hw1 ⟨rfl,hb1,hn1,hkp⟩;have hg1:=hb1.get;simp only[sxA,sxB,Nat.reduceBEq,Nat.reduceEqDiff,reduceCtorEq,mxA,mxB,Nat.reduceAdd,reduceIte,Nat.reduceLeDiff,splice,Jg,hg1];refine QCd hb1 (m:=m) (by simp[ZQ,XX,Qhe,u8v,mkS,ByteArray.size]) hl ?_;intro v' H' hgD hb' ⟨b,n,c,hv'⟩ hn' hst;subst hv';have hn2:=hb'.ext.next;rw[QE]at hn2;simp only[sxA,sxB,Nat.reduceBEq,Nat.reduceEqDiff,reduceCtorEq,mxA,mxB,Nat.reduceAdd,reduceIte,Nat.reduceLeDiff,splice,Jg,hgD,QaY,K2];refine .mk (by rw[QE];omega) ⟨⟨_,_,rfl⟩,_,_,hb',⟨by rw[QE];omega,λid h1 h2 h3=>?_,λid hi=>by have:=hst.new id hi;rw[hn1]at this;exact this⟩⟩;rw[hst.keep id (by omega) h2 h3,hkp id h2]
theorem QEa (l:List UInt8):(u8v l).all Qzs=true:=by
 rw[Li];intro v hv;obtain⟨b,_,rfl⟩:=N4.1 hv;have:=b.toNat_lt;simp[Qzs];omega
theorem QyC {H0 H:Qa} {D:Nat} {l:List UInt8} {p v:Value} (hb:BAt H0 H D l p v) (h1:1<=l.length) (hl:l.length<=140737488355328):Qg prog Yh [.pointer (some ⟨D,0,none⟩)] H λu H'=>u=.string (mkS l)∧Ext H0 H':=by
 refine QbU λhw=>?_;obtain⟨hg,hp,hgs,hlow,hap,hwf,hx⟩:=hb;simp only[Z1,sxA,sxB,Nat.reduceBEq,Nat.reduceEqDiff,reduceCtorEq,mxA,mxB,Nat.reduceAdd,reduceIte,Nat.reduceLeDiff,splice,Jg,hg];have hn:=hx.next;rcases hgs with⟨rfl,h0,_⟩ | ⟨b,rfl,h2,h3,h4⟩
 ·omega
 ·have e:(l.length:Int)=((u8v l).length:Int):=by rw[QjU]
  rw[QvH (a:=some ⟨b,0,none⟩) (n:=l.length) (c:=UNK+1) (by simp only[uxA,uxB,Nat.reduceBEq]) (.inr (by omega))];simp only[sxA,sxB,Nat.reduceBEq,Nat.reduceEqDiff,reduceCtorEq,mxA,mxB,Nat.reduceAdd,reduceIte,Nat.reduceLeDiff,splice,Jg,hg,QU];rw[Qyx (e:=5) (b:=b) (by kernel_rfl) (by simp only[uxA,uxB,Nat.reduceBEq]) (by simp only[uxA,uxB,Nat.reduceBEq];rw[e]) h3 (by rw[QjU];omega) (by rw[QjU];omega) (QEa l) (Qgv l)];simp only[sxA,sxB,Nat.reduceBEq,Nat.reduceEqDiff,reduceCtorEq,mxA,mxB,Nat.reduceAdd,reduceIte,Nat.reduceLeDiff,splice,Qbg];exact .mk (by rw[QE];exact Lb _) ⟨rfl,hx.set h2 _⟩
def QrM:Value->Bool
 | .agg xs=>xs.toList.all Ab.plain
 | v=>Ab.plain v
theorem QFp {τ:Nat->Nat} {n:Nat} {v:Value} (h:QrM v=true):QeO τ n v v:=by
 unfold QrM at h;split at h
 ·rename_i xs;have e:Value.agg xs=Value.agg xs.toList.toArray:=by simp
  rw[e];refine QeO.agg rfl λj x y hx hy=>?_;rw[hx]at hy;cases hy;exact QeO.plain (Li.1 h x (Ln hx))
 ·exact QeO.plain h
theorem Qor {known:CallF} (hk:CallOk prog known) {F G k:Nat} {f:FuncId} {args:List Value} {tabs:List Tab} {u:Value} (hto:tabsOk tabs=true) (he:entered prog f=true) (ha:args.all QrM=true) (hu:Ab.plain u=true) (h:isV u ((run prog known F G k).fn f args (Xc prog.globals.size tabs))=true) (H:Qa) (hT:Qbi tabs H=true):Qg prog f args H λv H'=>v=u∧H'=H:=by
 unfold isV at h;split at h
 ·rename_i v H1 hr;have hd:=((Qdn hk k).fn f args _ _ H1 hr).does he;have e:u=v:=Kk 6 _ _ h;subst e;refine QcU he (QyA (args:=args) (args2:=args) (τ:=λn=>n) hd hu (Lb _) (λ_ _=>rfl) (λid b hb=>?_) rfl λj x y hx hy=>?_)
  ·have hg:=QiN hT id b hb;obtain⟨t,ht1,rfl,rfl⟩:=Ya hb;refine⟨t.c,t.e,t.c,t.e,true,rfl,hg,rfl,λj x y hx hy=>?_⟩;rw[hx]at hy;cases hy;exact QeO.plain (Li.1 (Li.1 hto t ht1) x (Ln hx))
  ·rw[hx]at hy;cases hy;exact QFp (Li.1 ha x (Ln hx))
 ·cases h
def QDk:List (List (List UInt8)):=[[],[[97,108],[99,108],[100,108],[98,108],[115,112,108],[98,112,108],[115,105,108],[100,105,108],[114,56,98],[114,57,98],[114,49,48,98],[114,49,49,98],[114,49,50,98],[114,49,51,98],[114,49,52,98],[114,49,53,98]],[[97,104],[99,104],[100,104],[98,104]],[[97,120],[99,120],[100,120],[98,120],[115,112],[98,112],[115,105],[100,105],[114,56,119],[114,57,119],[114,49,48,119],[114,49,49,119],[114,49,50,119],[114,49,51,119],[114,49,52,119],[114,49,53,119]],[[101,97,120],[101,99,120],[101,100,120],[101,98,120],[101,115,112],[101,98,112],[101,115,105],[101,100,105],[114,56,100],[114,57,100],[114,49,48,100],[114,49,49,100],[114,49,50,100],[114,49,51,100],[114,49,52,100],[114,49,53,100]],[[114,97,120],[114,99,120],[114,100,120],[114,98,120],[114,115,112],[114,98,112],[114,115,105],[114,100,105],[114,56],[114,57],[114,49,48],[114,49,49],[114,49,50],[114,49,51],[114,49,52],[114,49,53]],[[120,109,109,48],[120,109,109,49],[120,109,109,50],[120,109,109,51],[120,109,109,52],[120,109,109,53],[120,109,109,54],[120,109,109,55],[120,109,109,56],[120,109,109,57],[120,109,109,49,48],[120,109,109,49,49],[120,109,109,49,50],[120,109,109,49,51],[120,109,109,49,52],[120,109,109,49,53]],[[121,109,109,48],[121,109,109,49],[121,109,109,50],[121,109,109,51],[121,109,109,52],[121,109,109,53],[121,109,109,54],[121,109,109,55],[121,109,109,56],[121,109,109,57],[121,109,109,49,48],[121,109,109,49,49],[121,109,109,49,50],[121,109,109,49,51],[121,109,109,49,52],[121,109,109,49,53]],[[114,105,112]]]
def Wo (r:Rg):List UInt8:=if Q9 r=true then(QDk.getD r.c.toNat []).getD (r.n - (QeU r.c).1).toNat [] else[]
def QFq (c:Nat):Nat:=if c=2 then 4 else if c=8 then 1 else if c=0 then 0 else if 8<c then 0 else 16
def QEb (c:Nat):Nat:=if c=2 then 4 else 0
def QqO:List (Nat×Nat):=(List.range 9).flatMap λc=>(List.range (QFq c)).map λn=>(c,QEb c+n)
theorem Qos {r:Rg} (h:Q9 r=true):∃p∈QqO,r=⟨p.1,p.2⟩:=by
 obtain⟨c,n⟩:=r;unfold Q9 QeU at h;have h:=Lg h;have hc:1<=c∧c<=8:=by
  simp only at h
  repeat' (split at h)
  all_goals (simp only at h;omega)
 obtain⟨k,rfl⟩:∃k:Nat,c=k:=⟨c.toNat,by omega⟩;have hk:k=1∨k=2∨k=3∨k=4∨k=5∨k=6∨k=7∨k=8:=by omega
 have hn:0<=n:=by
  simp only at h
  repeat' (split at h)
  all_goals (simp only at h;omega)
 obtain⟨m,rfl⟩:∃m:Nat,n=m:=⟨n.toNat,by omega⟩;refine⟨(k,m),?_,rfl⟩;unfold QqO;rw[NF];refine⟨k,LU.2 (by omega),?_⟩;rw[N4];refine⟨m - QEb k,LU.2 ?_,?_⟩
 all_goals (rcases hk with rfl | rfl | rfl | rfl | rfl | rfl | rfl | rfl<;>simp[QEb,QFq]at h ⊢<;>omega)
theorem Qbq (r:Rg):(Wo r).length<=5:=by
 cases h:Q9 r with
 | true=>
  obtain⟨p,hp,rfl⟩:=Qos h;have:(QqO.all λp=>Nat.ble (Wo ⟨p.1,p.2⟩).length 5)=true:=by decide +kernel
  have:=Li.1 this p hp;simpa using this
 | false=>unfold Wo;rw[h];simp
def QDl (T:Qa->Prop):Prop:=∀p∈QqO,∀H,T H->Qg prog GH [.agg #[.int .i64 p.1,.int .i64 p.2]] H λu H'=>u=.string (mkS (Wo ⟨p.1,p.2⟩))∧H'=H
theorem QiQ {T:Qa->Prop} (hT:QDl T) (r:Rg) (hr:Q9 r=true) (H:Qa) (hTH:T H):Qg prog GH [.agg r.cells.toArray] H λu H'=>u=.string (mkS (Wo r))∧H'=H:=by
 obtain⟨p,hp,rfl⟩:=Qos hr;exact hT p hp H hTH
theorem QrN {H0 H:Qa} {D:Nat} {l:List UInt8} {p v:Value} (hb:BAt H0 H D l p v) {id:Nat} (hi:Qcc v id):id<H.next:=(hb.gs.low hb.wf hi).2
theorem QyD (ws:List (List UInt8)) (i:Nat) (w:List UInt8) (h:ws[i]? = some w):(ws.take (i+1)).flatten=(ws.take i).flatten++w:=by
 have hi:=(Lk.1 h).1;rw[Nv,h];simp
theorem QCf (ws:List (List UInt8)) (i:Nat):((ws.take i).flatten).length<=(ws.flatten).length:=by
 have h:ws.flatten=(ws.take i).flatten++(ws.drop i).flatten:=by rw[<- List.flatten_append,NW]
 rw[h,Lh];omega
theorem QFr {H0 H:Qa} {D:Nat} {l:List UInt8} {p v:Value} (hb:BAt H0 H D l p v) (ws:List (List UInt8)) {b:Nat} {e:TypeId} {ro:Bool} {cap:Nat} (hg:H.get b=some (.cells (Qtz ws) e ro)) (hbD:b≠D) (hbv:¬Qcc v b) (hl:l.length+ws.flatten.length<=1000000) (hn:ws.length<=1000):
  Qg prog Qr [.pointer (some ⟨D,0,none⟩),.slice (some ⟨b,0,none⟩) ws.length cap] H λu H'=>u=.pointer (some ⟨D,0,none⟩)∧Qmy H0 H D (l++ws.flatten) v H':=by
 refine QjO λhw=>?_;simp only[Qca,sxA,sxB,Nat.reduceBEq,Nat.reduceEqDiff,reduceCtorEq,QU];refine QB (λm A' H'=>∃ (i:Nat) (p' v':Value),i<=ws.length∧m=ws.length - i∧BAt H0 H' D (l++(ws.take i).flatten) p' v'∧J6 D v v' H H'∧A' 0=.pointer (some ⟨D,0,none⟩)∧A' 7=.slice (some ⟨b,0,none⟩) ws.length cap∧A' 8=.int .i64 ws.length∧A' 9=.int .i64 i) ws.length ?_ ?_
 ·refine⟨0,p,v,L7 _,by omega,by simpa using hb,.refl _ _ _,?_,?_,?_,?_⟩
  all_goals simp only[uxA,uxB,Nat.reduceBEq]
  rfl
 ·rintro m A' H' ⟨i,p',v',hi,rfl,hb',hst,r0,r7,r8,r9⟩;simp only[Qan,sxA,sxB,Nat.reduceBEq,Nat.reduceEqDiff,reduceCtorEq,r8,r9];refine Qi (λh2=>?_) (λh2=>?_)
  ·have h2:i<ws.length:=by have:=Lg h2;omega
   obtain⟨w,hwi⟩:∃w,ws[i]? = some w:=⟨_,La h2⟩;have hbl:=hw.lt hg;have hg':H'.get b=some (.cells (Qtz ws) e ro):=by rw[hst.keep b hbl hbD hbv];exact hg
   have hs:=Qz7 hwi;have d1:(0:Int)<=i∧(i:Int)<ws.length:=by omega
   have d3:(i:Int).toNat=i:=by omega
   have ei:IntKind.i64.wrap ((i:Int)+1)=((i+1:Nat):Int):=by rw[w64 (by unfold I64;omega)];omega
   have hfl:=QCf ws (i+1);have hfd:=QyD ws i w hwi;simp only[Qam,sxA,sxB,Nat.reduceBEq,Nat.reduceEqDiff,reduceCtorEq,mxA,mxB,Nat.reduceAdd,reduceIte,Nat.reduceLeDiff,splice,r0,r7,r8,r9,d1,d3,hg',hs,Nf,Jg];refine(QpK hb' (m:=w) (by rw[Lh];rw[hfd,Lh]at hfl;omega)).thenW ?_;rintro _ H2 hn2 hw2 ⟨⟨x,y,rfl⟩,p2,v2,hb2,hst2⟩;simp only[sxA,sxB,Nat.reduceBEq,Nat.reduceEqDiff,reduceCtorEq,r9,ei];refine⟨ws.length - (i+1),by omega,i+1,p2,v2,by omega,rfl,?_,hst.trans hst2,?_,?_,?_,?_⟩
   ·rw[hfd,<- LQ];exact hb2
   all_goals simp only[uxA,uxB,Nat.reduceBEq,r0,r7,r8]
  ·have h2:i=ws.length:=by have:=Ll h2;omega
   subst h2;rw[Nr]at hb';simp only[sxA,sxB,Nat.reduceBEq,Nat.reduceEqDiff,reduceCtorEq,r0,QiK];exact .mk hst.next ⟨rfl,p',v',hb',hst⟩
theorem JP {H0 H:Qa} {D:Nat} {l:List UInt8} {p v:Value} (hb:BAt H0 H D l p v) (ws:List (List UInt8)) (n:Nat) (hn:n=ws.length) (hl:l.length+ws.flatten.length<=1000000) (hn2:ws.length<=1000):
  Qg prog Qr [.pointer (some ⟨D,0,none⟩),.slice (some ⟨H.next,0,none⟩) n n] (H.push (.cells (Qtz ws) 9 false)) λu H'=>u=.pointer (some ⟨D,0,none⟩)∧Qmy H0 H D (l++ws.flatten) v H':=by
 subst hn;have hD:=hb.wf.lt hb.get;have hx:=(Ext.refl H).push (.cells (Qtz ws) 9 false);refine(QFr (cap:=ws.length) (hb.go hx (hb.wf.push _)) ws (b:=H.next) (by rw[Qd,Lc rfl]) (by omega) (λhi=>?_) hl hn2).mono ?_
 ·have:=QrN hb hi;omega
 ·rintro u H' ⟨rfl,p',v',h1,h2⟩;exact⟨rfl,p',v',h1,h2.pre hx⟩
theorem Qz8 {H0 H:Qa} {D:Nat} {l:List UInt8} {p v:Value} (hb:BAt H0 H D l p v) (f:Bool) (a b:List UInt8) (hl:l.length+a.length+b.length<=1000000):
  Qg prog Zl [.pointer (some ⟨D,0,none⟩),.bool f,.string (mkS a),.string (mkS b)] H λu H'=>u=.pointer (some ⟨D,0,none⟩)∧Qmy H0 H D (l++(bif f then a else b)) v H':=by
 refine QiL λhw=>?_;cases f with
 | true=>
  simp only[JM,sxA,sxB,Nat.reduceBEq,Nat.reduceEqDiff,reduceCtorEq,mxA,mxB,Nat.reduceAdd,reduceIte,Nat.reduceLeDiff,splice,syA];refine(JP hb [a] 1 rfl (by simp;omega) (by simp)).thenW ?_;rintro _ H2 hn2 hw2 ⟨rfl,p2,v2,hb2,hst2⟩;simp only[sxA,sxB,Nat.reduceBEq,Nat.reduceEqDiff,reduceCtorEq,Qao];exact .mk hst2.next ⟨rfl,p2,v2,by simpa using hb2,hst2⟩
 | false=>
  simp only[JM,sxA,sxB,Nat.reduceBEq,Nat.reduceEqDiff,reduceCtorEq,mxA,mxB,Nat.reduceAdd,reduceIte,Nat.reduceLeDiff,splice,syA];refine(JP hb [b] 1 rfl (by simp;omega) (by simp)).thenW ?_;rintro _ H2 hn2 hw2 ⟨rfl,p2,v2,hb2,hst2⟩;simp only[sxA,sxB,Nat.reduceBEq,Nat.reduceEqDiff,reduceCtorEq,Qao];exact .mk hst2.next ⟨rfl,p2,v2,by simpa using hb2,hst2⟩
def Qcd (n:Int):List UInt8:=if(n==1)=true then[98,121,116,101,32] else if(n==2)=true then[119,111,114,100,32] else if(n==4)=true then[100,119,111,114,100,32] else if(n==8)=true then[113,119,111,114,100,32] else if(n==16)=true then[111,119,111,114,100,32] else if(n==32)=true then[121,119,111,114,100,32] else[]
theorem QqP (n:Int):(Qcd n).length<=6:=by unfold Qcd;repeat' (split<;>try decide)
theorem QrO (n:Int) (H:Qa):Qg prog Qez [.int .i64 n] H λu H'=>u=.string (mkS (Qcd n))∧H'=H:=by
 refine QpE λhw=>?_;unfold Qcd;simp only[QhV,Qff,Qfg,Qfh,Qfi,sxA,sxB,Nat.reduceBEq,Nat.reduceEqDiff,reduceCtorEq]
 repeat' (first
  | (refine Qi (λh=>?_) (λh=>?_)<;>simp only[sxA,sxB,Nat.reduceBEq,Nat.reduceEqDiff,reduceCtorEq,h,Qoc,N3,LN,LV])
  | fail)
 all_goals exact .mk (Lb _) ⟨rfl,rfl⟩
def QdJ (n:Nat):List UInt8:=[(48+n).toUInt8]
theorem QCg:((List.range 10).all λn=>Qz3 QcW [.int .i64 n] (.string (mkS (QdJ n))))=true:=by kernel_rfl
theorem QEc (n:Nat) (hn:n<10) (H:Qa):Qg prog QcW [.int .i64 n] H λu H'=>u=.string (mkS (QdJ n))∧H'=H:=
 QqN (by kernel_rfl) rfl rfl (Li.1 QCg n (LU.2 hn)) H
theorem Vh (n:Int) (h:I64 n):(Kg n).length<=20:=by
 have h1:=Qls 15 n.natAbs (by unfold I64 at h;omega);unfold Kg Qtx;simp only[Lh];split<;>simp<;>omega
theorem Gz (a:List UInt8):[a].flatten=a:=Na a
theorem QmE (a b:List UInt8):[a,b].flatten=a++b:=by rw[List.flatten_cons,Gz]
theorem Qh4 (a b c:List UInt8):[a,b,c].flatten=a++(b++c):=by rw[List.flatten_cons,QmE]
def Qae (f:Bool) (m:Mm):List UInt8:=bif f then Kg m.d else bif decide (0<m.d) then[32,43,32]++Kg m.d else bif decide (m.d<0) then[32,45,32]++Kg (-m.d) else[]
def Qw1 (m:Mm):List UInt8:=bif isR m.b 0 0 then[] else Wo m.b
def Qot (f:Bool) (m:Mm):List UInt8:=bif isR m.i 0 0 then[] else(bif f then[] else[32,43,32])++(Wo m.i++([42]++QdJ m.sc.toNat))
def JQ (m:Mm):List UInt8:=
 Qcd m.sz++[91]++Qw1 m++Qot (isR m.b 0 0) m ++
  Qae (isR m.b 0 0&&isR m.i 0 0) m++[93]
structure MOk (m:Mm):Prop where
 b:isR m.b 0 0=false->Q9 m.b=true
 i:isR m.i 0 0=false->Q9 m.i=true∧0<=m.sc∧m.sc<10
 d:-2147483648<=m.d∧m.d<=2147483647
theorem QvM {m:Mm} (h:MOk m):(JQ m).length<=100:=by
 have h1:=QqP m.sz;have h2:=Qbq m.b;have h3:=Qbq m.i;have h4:=Vh m.d (by have:=h.d;unfold I64;omega);have h5:=Vh (-m.d) (by have:=h.d;unfold I64;omega);unfold JQ Qae Qw1 Qot;simp only[Lh];cases isR m.b 0 0<;>cases isR m.i 0 0<;>cases decide (0<m.d)<;>cases decide (m.d<0)<;>simp[QdJ]<;>omega
structure QyE (T:Qa->Prop):Prop where
 q:Tq T
 nm:QDl T
section
variable {T:Qa->Prop} (hT:QyE T) {H0 H:Qa} (hw0:H0.Wf) (hT0:T H0) {D:Nat} {l:List UInt8} {v:Value} {m:Mm}
abbrev KPx (H0 H:Qa) (D:Nat) (l:List UInt8) (v:Value):Env->Qa->Prop:=Rt prog QiM H λu H'=>u=.pointer (some ⟨D,0,none⟩)∧Qmy H0 H D l v H'
structure PlF (H0 H H1:Qa) (D:Nat) (v:Value) (m:Mm) (l:List UInt8) (A:Env) (H':Qa):Prop where
 b:∃p' v',BAt H0 H' D l p' v'∧J6 D v v' H1 H'
 r0:A 0=.pointer (some ⟨D,0,none⟩)
 r3:A 3=.pointer (some ⟨H.next,0,none⟩)
theorem PlF.env {H1:Qa} {A B:Env} {H':Qa} (h:PlF H0 H H1 D v m l A H') (e0:B 0=A 0) (e3:B 3=A 3):PlF H0 H H1 D v m l B H':=⟨h.b,e0.trans h.r0,e3.trans h.r3⟩
structure PlE (H0 H H1:Qa) (D:Nat) (v:Value) (m:Mm):Prop where
 w:H0.Wf
 x:Ext H H1
 g:H1.get H.next=some (.cells m.cells Qx false)
 lt:H.next<H1.next
 nD:H.next≠D
 nv:¬Qcc v H.next
theorem PlE.get {H1:Qa} (h:PlE H0 H H1 D v m) {v':Value} {H':Qa} (hs:J6 D v v' H1 H'):H'.get H.next=some (.cells m.cells Qx false):=by
 rw[hs.keep _ h.lt h.nD h.nv];exact h.g
include hT hT0 in
theorem Qz9 {H1:Qa} (hE:PlE H0 H H1 D v m) (hm:MOk m) (f:Bool) {A:Env} {H':Qa} (hF:PlF H0 H H1 D v m l A H') (hl:l.length<=900000) (r5:A 5=.bool f):
  Qs prog Zh ⟨KPx H0 H D (l++Qae f m++[93]) v,YO⟩ (KPx H0 H D (l++Qae f m++[93]) v) A H':=by
 unfold Qae;obtain⟨⟨p',v',hb,hst⟩,r0,r3⟩:=hF;have hd:=hm.d;have hI:I64 m.d:=by unfold I64;omega
 have hI2:I64 (-m.d):=by unfold I64;omega
 have wn:IntKind.i64.wrap (-m.d)=-m.d:=w64 hI2;have hgm:=hE.get hst;have hh:=Vh m.d hI;have hh2:=Vh (-m.d) hI2
 -- the bracket
 have hbr:∀ (l2:List UInt8) (A2:Env) (H2:Qa) (p2 v2:Value),l2.length<=999000->BAt H0 H2 D l2 p2 v2->J6 D v v2 H1 H2->A2 0=.pointer (some ⟨D,0,none⟩)->Qs prog (.seq (.ops [Om 66 (t 0),Ow 67 (.bslice 9 1 1 [.string (mkS [])] [(0,(.const (.string (mkS [93]))))]),Ow 68 (.call Qr [(t 66),(t 67)]),Om 4 (t 68)]) .ret) ⟨KPx H0 H D (l2++[93]) v,YO⟩ (KPx H0 H D (l2++[93]) v) A2 H2:=by
  intro l2 A2 H2 p2 v2 hl2 hb2 hs2 q0;simp only[sxA,sxB,Nat.reduceBEq,Nat.reduceEqDiff,reduceCtorEq,mxA,mxB,Nat.reduceAdd,reduceIte,Nat.reduceLeDiff,splice,syA,q0];refine(JP hb2 [[93]] 1 rfl (by simp;omega) (by simp)).thenW ?_;rintro _ H3 hn3 hw3 ⟨rfl,p3,v3,hb3,hst3⟩;simp only[sxA,sxB,Nat.reduceBEq,Nat.reduceEqDiff,reduceCtorEq,VE];have hfin:J6 D v v3 H H3:=(hs2.trans hst3).pre hE.x;exact .mk hfin.next ⟨rfl,p3,v3,by simpa using hb3,hfin⟩
 have hxq:∀n,I64 n->Qg prog Xr [.int .i64 n] H' λu H2=>u=.string (mkS (Kg n))∧Ext H' H2:=λn hn=>Qc8 hT.q n hn H' (hT.q.ext H0 H' hE.w hT0 hb.ext);have hm5:m.cells[5]? = some (.int .i64 m.d):=rfl;generalize hcs:m.cells=cs at *;simp only[Zh,QaX,Qmn];cases f with
 | true=>
  simp only[sxA,sxB,Nat.reduceBEq,Nat.reduceEqDiff,reduceCtorEq,mxA,mxB,Nat.reduceAdd,reduceIte,Nat.reduceLeDiff,splice,r0,r3,r5,hgm,hm5];refine(hxq m.d hI).thenW ?_;rintro _ H2 hn2 hw2 ⟨rfl,hx2⟩;simp only[sxA,sxB,Nat.reduceBEq,Nat.reduceEqDiff,reduceCtorEq,mxA,mxB,Nat.reduceAdd,reduceIte,Nat.reduceLeDiff,splice,syA,r0];refine(JP (hb.go hx2 hw2) [Kg m.d] 1 rfl (by simp;omega) (by simp)).thenW ?_;rintro _ H3 hn3 hw3 ⟨rfl,p3,v3,hb3,hst3⟩;simp only[Qa9,JH,JX,Lq,Ls];rw[Gz]at hb3;refine hbr (l++Kg m.d) _ _ p3 v3 (by rw[Lh];omega) hb3 ((hst.post hx2).trans hst3) ?_;simp only[uxA,uxB,Nat.reduceBEq,r0]
 | false=>
  cases h1:decide (0<m.d) with
  | true=>
   simp only[XC,sxA,sxB,Nat.reduceBEq,Nat.reduceEqDiff,reduceCtorEq,mxA,mxB,Nat.reduceAdd,reduceIte,Nat.reduceLeDiff,splice,r0,r3,r5,hgm,hm5,h1];refine(hxq m.d hI).thenW ?_;rintro _ H2 hn2 hw2 ⟨rfl,hx2⟩;simp only[sxA,sxB,Nat.reduceBEq,Nat.reduceEqDiff,reduceCtorEq,mxA,mxB,Nat.reduceAdd,reduceIte,Nat.reduceLeDiff,splice,syA,r0];refine(JP (hb.go hx2 hw2) [[32,43,32],Kg m.d] 2 rfl (by simp;omega) (by simp)).thenW ?_;rintro _ H3 hn3 hw3 ⟨rfl,p3,v3,hb3,hst3⟩;simp only[Qa9,JH,JX,Lq,Ls];rw[QmE,Nm,Nm,Nm,LH]at hb3;refine hbr (l++(32::43::32::Kg m.d)) _ _ p3 v3 (by simp only[Lh,Lo,L9];omega) hb3 ((hst.post hx2).trans hst3) ?_;simp only[uxA,uxB,Nat.reduceBEq,r0]
  | false=>
   cases h2:decide (m.d<0) with
   | true=>
    simp only[XC,Zg,sxA,sxB,Nat.reduceBEq,Nat.reduceEqDiff,reduceCtorEq,mxA,mxB,Nat.reduceAdd,reduceIte,Nat.reduceLeDiff,splice,r0,r3,r5,hgm,hm5,h1,h2];rw[Qtt (ik:=.i64) (n:=m.d) (by simp only[uxA,uxB,Nat.reduceBEq])];simp only[sxA,sxB,Nat.reduceBEq,Nat.reduceEqDiff,reduceCtorEq,wn];refine(hxq (-m.d) hI2).thenW ?_;rintro _ H2 hn2 hw2 ⟨rfl,hx2⟩;simp only[sxA,sxB,Nat.reduceBEq,Nat.reduceEqDiff,reduceCtorEq,mxA,mxB,Nat.reduceAdd,reduceIte,Nat.reduceLeDiff,splice,syA,r0];refine(JP (hb.go hx2 hw2) [[32,45,32],Kg (-m.d)] 2 rfl (by simp;omega) (by simp)).thenW ?_;rintro _ H3 hn3 hw3 ⟨rfl,p3,v3,hb3,hst3⟩;simp only[Qa9,JH,JX,Lq,Ls];rw[QmE,Nm,Nm,Nm,LH]at hb3;refine hbr (l++(32::45::32::Kg (-m.d))) _ _ p3 v3 (by simp only[Lh,Lo,L9];omega) hb3 ((hst.post hx2).trans hst3) ?_;simp only[uxA,uxB,Nat.reduceBEq,r0]
   | false=>
    simp only[XC,Zg,sxA,sxB,Nat.reduceBEq,Nat.reduceEqDiff,reduceCtorEq,mxA,mxB,Nat.reduceAdd,reduceIte,Nat.reduceLeDiff,splice,syA,r0,r3,r5,hgm,hm5,h1,h2];refine(JP hb [[93]] 1 rfl (by simp;omega) (by simp)).thenW ?_;rintro _ H3 hn3 hw3 ⟨rfl,p3,v3,hb3,hst3⟩;simp only[sxA,sxB,Nat.reduceBEq,Nat.reduceEqDiff,reduceCtorEq,VE];have hfin:J6 D v v3 H H3:=(hst.trans hst3).pre hE.x;exact .mk hfin.next ⟨rfl,p3,v3,by simpa using hb3,hfin⟩
end
section
variable {T:Qa->Prop} (hT:QyE T) {H0 H:Qa} (hw0:H0.Wf) (hT0:T H0) {D:Nat} {l:List UInt8} {v:Value} {m:Mm}
include hT hT0 in
theorem QAa {H1:Qa} (hE:PlE H0 H H1 D v m) (hm:MOk m) (f:Bool) {A:Env} {H':Qa} (hF:PlF H0 H H1 D v m l A H') (hl:l.length<=800000) (r5:A 5=.bool f) (w:List UInt8) (ew:w=l++Qot f m++Qae (f&&isR m.i 0 0) m++[93]):
  Qs prog Zi ⟨KPx H0 H D w v,YO⟩ (KPx H0 H D w v) A H':=by
 have hF0:=hF;obtain⟨⟨p',v',hb,hst⟩,r0,r3⟩:=hF;have hgm:=hE.get hst;have hltm:=hE.lt;have hnst:=hst.next;have hn2:=Qbq m.i;have hi:=hm.i;simp only[Mm.cells]at hgm;simp only[Zi,QaX];simp only[sxA,sxB,Nat.reduceBEq,Nat.reduceEqDiff,reduceCtorEq,mxA,mxB,Nat.reduceAdd,reduceIte,Nat.reduceLeDiff,splice,r0,r3,r5,hgm,Qz];have he:(m.i.c==0&&m.i.n==0)=isR m.i 0 0:=rfl;simp only[Lq,he];unfold Qot at ew;cases h:isR m.i 0 0 with
 | true=>
  rw[h,Lq,Be,Na]at ew;subst ew;simp only[L8,sxA,sxB,Nat.reduceBEq,Nat.reduceEqDiff,reduceCtorEq,Lq,Be,Na];refine Qz9 hT hT0 hE hm f (hF0.env ?_ ?_) (by omega) ?_
  all_goals simp only[uxA,uxB,Nat.reduceBEq,r5]
 | false=>
  obtain⟨i1,i2,i3⟩:=hi h;rw[h,Ls,NJ]at ew;have hsc:((m.sc.toNat:Nat):Int)=m.sc:=by omega
  have hsn:m.sc.toNat<10:=by omega
  simp only[LM,Gq,sxA,sxB,Nat.reduceBEq,Nat.reduceEqDiff,reduceCtorEq,mxA,mxB,Nat.reduceAdd,reduceIte,Nat.reduceLeDiff,splice,r0,r3,r5,cgA];refine⟨⟨by omega,by omega⟩,?_⟩;refine(Qz8 hb f [] [32,43,32] (by simp;omega)).thenW ?_;rintro _ H2 hn2 hw2 ⟨rfl,p2,v2,hb2,hst2⟩;have hgm2:=hE.get (hst.trans hst2);simp only[Mm.cells]at hgm2;have hkp:H2.get H.next=H'.get H.next:=by rw[hgm2,hgm]
  have hlt2:H.next<H2.next:=by omega
  have qn:=QiQ hT.nm m.i i1 H2 (hT.q.ext H0 H2 hE.w hT0 hb2.ext);have qd:=QEc m.sc.toNat hsn H2;rw[hsc]at qd;simp only[sxA,sxB,Nat.reduceBEq,Nat.reduceEqDiff,reduceCtorEq,mxA,mxB,Nat.reduceAdd,reduceIte,Nat.reduceLeDiff,splice,cgA,hgm,hgm2,r0,r3,BN,Bz];refine⟨by simp[Qm,Ab.plain],by omega,?_⟩;refine qn.thenW ?_;rintro _ H2 _ hw3 ⟨rfl,rfl⟩;simp only[sxA,sxB,Nat.reduceBEq,Nat.reduceEqDiff,reduceCtorEq,mxA,mxB,Nat.reduceAdd,reduceIte,Nat.reduceLeDiff,splice,hgm2,r0,r3];refine⟨λ_ _=>rfl,by simp[Qm,Ab.plain],?_⟩;refine qd.thenW ?_;rintro _ H2 _ hw4 ⟨rfl,rfl⟩;simp only[sxA,sxB,Nat.reduceBEq,Nat.reduceEqDiff,reduceCtorEq,mxA,mxB,Nat.reduceAdd,reduceIte,Nat.reduceLeDiff,splice,syA,r0,r3];have hl2:(bif f then([]:List UInt8) else[32,43,32]).length<=3:=by cases f<;>simp
  have hfl:([Wo m.i,[42],QdJ m.sc.toNat]:List (List UInt8)).flatten.length<=100:=by rw[Qh4];simp[QdJ];omega
  refine(JP hb2 [Wo m.i,[42],QdJ m.sc.toNat] 3 rfl (by rw[Lh];omega) (by simp)).thenW ?_;rintro _ H5 hn5 hw5 ⟨rfl,p5,v5,hb5,hst5⟩;simp only[sxA,sxB,Nat.reduceBEq,Nat.reduceEqDiff,reduceCtorEq];rw[LQ,Qh4]at hb5;have hl5:(l++((bif f then([]:List UInt8) else[32,43,32])++(Wo m.i++([42]++QdJ m.sc.toNat)))).length<=900000:=by
   rw[Qh4]at hfl;rw[Lh,Lh];omega
  subst ew;refine Qz9 hT hT0 hE hm false ⟨⟨p5,v5,hb5,(hst.trans hst2).trans hst5⟩,?_,?_⟩ hl5 ?_
  all_goals simp only[uxA,uxB,Nat.reduceBEq,r0,r3]
include hT hT0 in
theorem QrP (hw0:H0.Wf) {p:Value} (hb:BAt H0 H D l p v) (hm:MOk m) (hl:l.length<=700000):Qg prog JK [.pointer (some ⟨D,0,none⟩),.agg m.cells.toArray] H λu H'=>u=.pointer (some ⟨D,0,none⟩)∧Qmy H0 H D (l++JQ m) v H':=by
 refine QhA λhw=>?_;have ex:(Value.agg m.cells.toArray).cells.toList=m.cells:=rfl;have hx1:=(Ext.refl H).push (.cells m.cells Qx false);have hb1:=hb.go hx1 (hw.push _);have hg1:(H.push (.cells m.cells Qx false)).get H.next=some (.cells m.cells Qx false):=by rw[Qd,Lc rfl]
 have hn1:(H.push (.cells m.cells Qx false)).next=H.next+1:=rfl;have hm6:m.cells[6]? = some (.int .i64 m.sz):=rfl;have hD:=hb.wf.lt hb.get;have hnv:¬Qcc v H.next:=λhi=>by have:=QrN hb hi;omega
 have hs6:=QqP m.sz;obtain⟨w,ew⟩:∃w,w=l++JQ m:=⟨_,rfl⟩;rw[<- ew];simp only[Qaq,ex,sxA,sxB,Nat.reduceBEq,Nat.reduceEqDiff,reduceCtorEq];generalize H.push (.cells m.cells Qx false)=H1 at *;simp only[sxA,sxB,Nat.reduceBEq,Nat.reduceEqDiff,reduceCtorEq,mxA,mxB,Nat.reduceAdd,reduceIte,Nat.reduceLeDiff,splice,hg1,hm6];refine(QrO m.sz H1).thenW ?_;rintro _ H1 _ hw2 ⟨rfl,rfl⟩;simp only[sxA,sxB,Nat.reduceBEq,Nat.reduceEqDiff,reduceCtorEq,mxA,mxB,Nat.reduceAdd,reduceIte,Nat.reduceLeDiff,splice,syA];have hfl:([Qcd m.sz,[91]]:List (List UInt8)).flatten.length<=7:=by rw[QmE];simp;omega
 refine(JP hb1 [Qcd m.sz,[91]] 2 rfl (by omega) (by simp)).thenW ?_;rintro _ H3 hn3 hw3 ⟨rfl,p3,v3,hb3,hst3⟩;have hE:PlE H0 H H1 D v m:=⟨hw0,hx1,hg1,by omega,by omega,hnv⟩;have hg3:=hE.get hst3;simp only[Mm.cells]at hg3;rw[QmE]at hb3;have hr2:=Qbq m.b;have hb':=hm.b;have hn31:=hst3.next;have hlt3:H.next<H3.next:=by omega
 simp only[sxA,sxB,Nat.reduceBEq,Nat.reduceEqDiff,reduceCtorEq,mxA,mxB,Nat.reduceAdd,reduceIte,Nat.reduceLeDiff,splice,hg3,Qz];have he:(m.b.c==0&&m.b.n==0)=isR m.b 0 0:=rfl;simp only[Lq,he];have hl3:(l++(Qcd m.sz++[91])).length<=700007:=by rw[QmE]at hfl;rw[Lh];omega
 unfold JQ Qw1 at ew;cases h:isR m.b 0 0 with
 | true=>
  rw[h,Lq,Na]at ew;simp only[L8,sxA,sxB,Nat.reduceBEq,Nat.reduceEqDiff,reduceCtorEq];refine QAa hT hT0 hE hm true ⟨⟨p3,v3,hb3,hst3⟩,?_,?_⟩ (by omega) ?_ w (by rw[ew];simp only[LQ])
  all_goals simp only[uxA,uxB,Nat.reduceBEq]
 | false=>
  rw[h,Ls]at ew;simp only[LM,sxA,sxB,Nat.reduceBEq,Nat.reduceEqDiff,reduceCtorEq,mxA,mxB,Nat.reduceAdd,reduceIte,Nat.reduceLeDiff,splice,hg3];refine(QiQ hT.nm m.b (hb' h) H3 (hT.q.ext H0 H3 hw0 hT0 hb3.ext)).thenW ?_;rintro _ H3 _ hw4 ⟨rfl,rfl⟩;simp only[sxA,sxB,Nat.reduceBEq,Nat.reduceEqDiff,reduceCtorEq,mxA,mxB,Nat.reduceAdd,reduceIte,Nat.reduceLeDiff,splice,syA];refine(JP hb3 [Wo m.b] 1 rfl (by rw[Gz];omega) (by simp)).thenW ?_;rintro _ H5 hn5 hw5 ⟨rfl,p5,v5,hb5,hst5⟩;rw[Gz]at hb5;simp only[sxA,sxB,Nat.reduceBEq,Nat.reduceEqDiff,reduceCtorEq];refine QAa hT hT0 hE hm false ⟨⟨p5,v5,hb5,hst3.trans hst5⟩,?_,?_⟩ (by rw[Lh];omega) ?_ w (by rw[ew];simp only[LQ])
  all_goals simp only[uxA,uxB,Nat.reduceBEq]
end
theorem Qcf {r:Rg} {c n:Int}:isR r c n=true↔r=⟨c,n⟩:=by
 obtain⟨a,b⟩:=r;simp[isR]
theorem Qbt {m:Mm} (h:QC m=0):(-2147483648<=m.d∧m.d<=2147483647)∧Yj m.sz=true∧(isR m.b 0 0=true∨isR m.b 8 0=true∨Xw m.b=true)∧
  ((isR m.i 0 0=true∧m.sc=0)∨(isR m.i 0 0=false∧Xw m.i=true∧Wx m.sc=true∧isR m.b 8 0=false∧(isR m.i 5 4=true->m.sc=1∧isR m.b 5 4=false))):=by
 unfold QC at h;split at h
 ·simp at h
 ·rename_i h1;split at h
  ·simp at h
  ·rename_i h2;split at h
   ·simp at h
   ·rename_i h3;split at h
    ·simp at h
    ·rename_i h4;have g1:-2147483648<=m.d∧m.d<=2147483647:=by simp at h1;omega
     have g2:Yj m.sz=true:=by simpa using h2
     have g3:isR m.b 0 0=true∨isR m.b 8 0=true∨Xw m.b=true:=by
      cases e1:isR m.b 0 0<;>cases e2:isR m.b 8 0<;>cases e3:Xw m.b<;>simp_all
     refine⟨g1,g2,g3,?_⟩;split at h
     ·rename_i h5;left;refine⟨h5,?_⟩;simpa[h5] using h4
     ·rename_i h5;have h5':isR m.i 0 0=false:=by simpa using h5
      right;split at h
      ·simp at h
      ·rename_i h6;split at h
       ·simp at h
       ·rename_i h7;refine⟨h5',?_,?_,?_,?_⟩
        ·cases e:Xw m.i<;>simp_all
        ·cases e:Wx m.sc<;>simp_all
        ·cases e:isR m.b 8 0<;>simp_all
        ·intro e;rw[e]at h7;constructor
         ·cases e2:m.sc==1<;>simp_all
         ·cases e2:isR m.b 5 4<;>simp_all
theorem QqS {m:Mm} (h1:-2147483648<=m.d∧m.d<=2147483647) (h2:Yj m.sz=true) (h3:isR m.b 0 0=true∨isR m.b 8 0=true∨Xw m.b=true)
  (h4:(isR m.i 0 0=true∧m.sc=0)∨(isR m.i 0 0=false∧Xw m.i=true∧Wx m.sc=true∧isR m.b 8 0=false∧(isR m.i 5 4=true->m.sc=1∧isR m.b 5 4=false))):QC m=0:=by
 unfold QC;have e1:(decide (m.d < -2147483648)||decide (m.d>2147483647))=false:=by simp;omega
 have e3:(!isR m.b 0 0&&!isR m.b 8 0&&!Xw m.b)=false:=by rcases h3 with h | h | h<;>simp[h]
 rw[e1,h2,e3];simp only[LV,LN,reduceCtorEq];rcases h4 with⟨h5,h6⟩ | ⟨h5,h6,h7,h8,h9⟩
 ·simp[h5,h6]
 ·simp only[h5,h6,h7,h8,NG,LV,LN,L8,Nt];cases e:isR m.i 5 4 with
  | false=>simp
  | true=>
   obtain⟨h10,h11⟩:=h9 e;simp[h10,h11]
structure Qj3 (m:Mm):Prop where
 ok:MOk m
 z:isR m.i 0 0=true->m.sc=0
 p:isR m.i 0 0=false->0<m.sc
 chk:QC m=0
 idem:Wp m=m
theorem QCh {r:Rg} (h:isR r 0 0=true∨isR r 8 0=true∨Xw r=true) (h0:isR r 0 0=false):Q9 r=true:=by
 rcases h with h | h | h
 ·rw[h]at h0;cases h0
 ·rw[Qcf.1 h];decide
 ·unfold Xw at h;simp only[Lm]at h;exact h.2
theorem QCi {r:Rg} (h:Xw r=true):Q9 r=true:=by
 unfold Xw at h;simp only[Lm]at h;exact h.2
theorem QAi {r:Rg} (h:Xw r=true):r.c=5:=by
 unfold Xw at h;simp only[Lm,L0]at h;exact h.1
theorem Qoz {n:Int} (h:Wx n=true):1<=n∧n<10:=by
 unfold Wx at h;simp only[Nw,L0]at h;omega
theorem QEd {m:Mm} (h:QC m=0):MOk m:=by
 obtain⟨h1,h2,h3,h4⟩:=Qbt h;refine⟨QCh h3,λh0=>?_,h1⟩;rcases h4 with⟨h5,_⟩ | ⟨_,h6,h7,_⟩
 ·rw[h5]at h0;cases h0
 ·have:=Qoz h7;exact⟨QCi h6,by omega,by omega⟩
theorem QGl {m:Mm} (h:QC m=0):Qj3 (Wp m):=by
 obtain⟨h1,h2,h3,h4⟩:=Qbt h;have key:QC (Wp m)=0∧Wp (Wp m)=Wp m:=by
  rcases h4 with⟨h5,h6⟩ | ⟨h5,h6,h7,h8,h9⟩
  ·have e:Wp m=m:=by unfold Wp;simp[h5]
   rw[e];exact⟨h,e⟩
  ·cases hs:m.sc==1 with
   | false=>
    have e:Wp m=m:=by unfold Wp;simp[hs]
    rw[e];exact⟨h,e⟩
   | true=>
    cases hb:isR m.b 0 0 with
    | true=>
     have e:Wp m=⟨m.i,⟨0,0⟩,0,m.d,m.sz⟩:=by unfold Wp;simp[h5,hs,hb]
     rw[e];refine⟨QqS h1 h2 (.inr (.inr h6)) (.inl ⟨rfl,rfl⟩),?_⟩;unfold Wp;rfl
    | false=>
     cases hi:m.i.n==4 with
     | false=>
      have e:Wp m=m:=by unfold Wp;simp[h5,hs,hb,hi]
      rw[e];exact⟨h,e⟩
     | true=>
      have e:Wp m=⟨m.i,m.b,m.sc,m.d,m.sz⟩:=by unfold Wp;simp[h5,hs,hb,hi]
      have hi4:m.i=⟨5,4⟩:=by
       have c:=QAi h6;have n:m.i.n=4:=by simpa using hi
       revert c n
       obtain⟨c,n⟩:=m.i;rintro rfl rfl;rfl
      have h10:=h9 (Qcf.2 hi4);have hw:Xw m.b=true:=by
       rcases h3 with h | h | h
       ·rw[h]at hb;cases hb
       ·rw[h]at h8;cases h8
       ·exact h
      have hsc:m.sc=1:=by simpa using hs
      have hbn:(m.b.n==4)=false:=by
       cases hq:m.b.n==4 with
       | false=>rfl
       | true=>
        have n:m.b.n=4:=by simpa using hq
        have c:=QAi hw;have:isR m.b 5 4=true:=by unfold isR;rw[c,n];rfl
        rw[this]at h10;cases h10.2
      rw[e];refine⟨QqS h1 h2 (.inr (.inr h6)) (.inr ⟨hb,hw,h7,?_,?_⟩),?_⟩
      ·rw[hi4];rfl
      ·intro q;rw[h10.2]at q;cases q
      ·have hib:isR m.i 0 0=false:=h5;unfold Wp;simp[hb,hs,hib,hbn]
 obtain⟨k1,k2⟩:=key;obtain⟨_,_,_,g4⟩:=Qbt k1;refine⟨QEd k1,λh0=>?_,λh0=>?_,k1,k2⟩
 ·rcases g4 with⟨_,g⟩ | ⟨g,_⟩
  ·exact g
  ·rw[h0]at g;cases g
 ·rcases g4 with⟨g,_⟩ | ⟨_,_,g,_⟩
  ·rw[h0]at g;cases g
  ·have:=Qoz g;omega
structure AOk (a:Ar):Prop where
 r:a.k=1->Q9 a.r=true
 m:a.k=2->Qj3 a.m
 k:a.k=1∨a.k=2∨a.k=3∨a.k=4
 n:I64 a.n
theorem QiS {a:Ar} (h:Wv a=0):(a.k=1->Q9 a.r=true)∧(a.k=2->QC a.m=0)∧(a.k=1∨a.k=2∨a.k=3∨a.k=4):=by
 unfold Wv at h;split at h
 ·rename_i h1;have h1':a.k=1:=by simpa using h1
  refine⟨λ_=>?_,λh2=>by omega,.inl h1'⟩;cases e:Q9 a.r with
  | true=>rfl
  | false=>rw[e]at h;simp at h
 ·rename_i h1;have h1':¬a.k=1:=by simpa using h1
  split at h
  ·rename_i h2;have h2':a.k=2:=by simpa using h2
   exact⟨λh=>absurd h h1',λ_=>h,.inr (.inl h2')⟩
  ·rename_i h2;have h2':¬a.k=2:=by simpa using h2
   refine⟨λh=>absurd h h1',λh=>absurd h h2',?_⟩;split at h
   ·rename_i h3;have h3':a.k=3:=by simpa using h3
    exact .inr (.inr (.inl h3'))
   ·split at h
    ·rename_i h4;have h4':a.k=4:=by simpa using h4
     exact .inr (.inr (.inr h4'))
    ·simp at h
theorem QDm:I64 0:=by unfold I64;omega
theorem QyI {a:Ar} (hn:I64 a.n) (h:Wv a=0):AOk (Zj a):=by
 obtain⟨h1,h2,h3⟩:=QiS h;unfold Zj;split
 ·rename_i k1;have k1':a.k=1:=by simpa using k1
  exact⟨h1,λh=>by simp only at h;omega,h3,QDm⟩
 ·rename_i k1;have k1':¬a.k=1:=by simpa using k1
  split
  ·rename_i k2;have k2':a.k=2:=by simpa using k2
   exact⟨λh=>absurd h k1',λh=>QGl (h2 k2'),h3,QDm⟩
  ·rename_i k2;have k2':¬a.k=2:=by simpa using k2
   exact⟨λh=>absurd h k1',λh=>absurd h k2',h3,hn⟩
theorem QyJ {ib:Int×Bool} {a:Ar} (hn:I64 a.n) (h:(Yk ib a).2=0):AOk (Yk ib a).1:=by
 have hb:Wc a=if(Wv a==0)=true then(Zj a,0) else(WM,Wv a):=rfl
 have e:Yk ib a=if((Wc a).2==0)=false then(a,(Wc a).2) else if((Wc a).1.k==3)=true then({(Wc a).1 with n:=(Jt (Wc a).1.n ib.1 ib.2).1},(Jt (Wc a).1.n ib.1 ib.2).2) else((Wc a).1,0):=rfl
 cases hc:Wv a==0 with
 | false=>
  rw[hb,hc]at e;simp only[LV,LN,hc,N3]at e;rw[e]at h;simp only at h;rw[h]at hc;cases hc
 | true=>
  have hc0:Wv a=0:=by simpa using hc
  rw[hb,hc]at e;have o:=QyI hn hc0;simp only[N3,LO,Fe,LN]at e;rw[e];split
  ·rename_i k3;have k3':(Zj a).k=3:=by simpa using k3
   exact⟨λh=>by simp only at h;omega,λh=>by simp only at h;omega,.inr (.inr (.inl k3')),Qow _ _ _ o.n⟩
  ·exact o
theorem QoA {ib:Int×Bool}:∀ {l:List Ar},(∀a∈l,I64 a.n)->(QX ib l).2=0->∀a∈(QX ib l).1,AOk a
 | [],_,_,a,ha=>by cases ha
 | b::l,hn,h,a,ha=>by
  unfold QX at h ha;split at h
  ·rename_i h1;rw[Lc h1]at ha;rcases LK.1 ha with rfl | ha
   ·exact QyJ (hn b (Ny ..)) (by simpa using h1)
   ·exact QoA (λx hx=>hn x (NA _ hx)) h a ha
  ·rename_i h1;simp only at h;exact absurd (L0.2 h) h1
theorem QqT {op:Int} {l:List Ar} {a:Ar} (h:a∈Ka op l):a∈l:=by
 unfold Ka at h;split at h
 ·split at h
  ·rename_i x y _;rcases LK.1 h with rfl | h
   ·exact Ny ..
   ·exact h
  ·exact h
 ·split at h
  ·simpa using h
  ·split at h
   ·simpa using h
   ·exact h
theorem QtI (ib:Int×Bool):∀l:List Ar,(QX ib l).1.length<=l.length
 | []=>Lb _
 | a::l=>by
  unfold QX;split
  ·have:=QtI ib l;simp only[Lo];omega
  ·exact L7 _
theorem QAj (op:Int) (l:List Ar):(Ka op l).length<=l.length+1:=by
 unfold Ka;split
 ·split
  ·simp
  ·exact Nat.le_succ _
 ·split
  ·simp
  ·split
   ·simp
   ·exact Nat.le_succ _
theorem QoB {op:Int} {l:List Ar} (hn:∀a∈l,I64 a.n) (h:(Qt op l).2.2=0):(Qt op l).1=op∧Xh op=true∧(Qt op l).2.1.length<=5∧∀a∈(Qt op l).2.1,AOk a:=by
 unfold Qt at h ⊢;split at h
 ·rename_i h1;simp only at h;rw[h]at h1;cases h1
 ·rename_i h1;split at h
  ·rename_i h2;simp only at h;rw[h]at h2;cases h2
  ·rename_i h2;rw[Le h1,Le h2];have h1':Wa op l=0:=by simpa using h1
   have h2':(QX (WC op l) l).2=0:=by simpa using h2
   refine⟨rfl,?_,?_,λa ha=>QoA hn h2' a (QqT ha)⟩
   ·cases e:Xh op with
    | true=>rfl
    | false=>unfold Wa at h1';simp[e]at h1'
   ·have q1:=QAj op (QX (WC op l) l).1;have q2:=QtI (WC op l) l;have q3:l.length<=4:=by
     unfold Wa at h1';split at h1'
     ·simp at h1'
     ·split at h1'
      ·simp at h1'
      ·omega
    show(Ka op (QX (WC op l) l).1).length<=5;omega
theorem QAk (n:Int):I64 (IntKind.i64.wrap n):=by rw[NU];unfold I64;omega
def VH (next:Int) (a:Ar):List UInt8:=if(a.k==1)=true then Wo a.r else if(a.k==2)=true then JQ a.m else if(a.k==3)=true then Kg a.n else Kg (IntKind.i64.wrap (a.n+next))
theorem QtJ {next:Int} {a:Ar} (h:AOk a):(VH next a).length<=100:=by
 unfold VH;split
 ·have:=Qbq a.r;omega
 ·split
  ·rename_i h2;exact QvM (h.m (by simpa using h2)).ok
  ·split
   ·have:=Vh a.n h.n;omega
   ·have:=Vh (IntKind.i64.wrap (a.n+next)) (QAk _);omega
section
variable {T:Qa->Prop} (hT:QyE T) {H0 H:Qa} (hw0:H0.Wf) (hT0:T H0) {D:Nat} {l:List UInt8} {v:Value}
include hT hT0 hw0 in
theorem QoC {p:Value} (hb:BAt H0 H D l p v) {a:Ar} (ha:AOk a) (next:Int) (hl:l.length<=600000):Qg prog Zz [.pointer (some ⟨D,0,none⟩),.agg a.cells.toArray,.int .i64 next] H λu H'=>u=.pointer (some ⟨D,0,none⟩)∧Qmy H0 H D (l++VH next a) v H':=by
 refine QfU λhw=>?_;have ex:(Value.agg a.cells.toArray).cells.toList=a.cells:=rfl;have hx1:=(Ext.refl H).push (.cells a.cells Qh false);have hb1:=hb.go hx1 (hw.push _);have hg1:(H.push (.cells a.cells Qh false)).get H.next=some (.cells a.cells Qh false):=by rw[Qd,Lc rfl]
 have hn1:(H.push (.cells a.cells Qh false)).next=H.next+1:=rfl;have hlen:=QtJ (next:=next) ha
 obtain⟨w,ew⟩:∃w,w=VH next a:=⟨_,rfl⟩;rw[<- ew]at hlen ⊢;have hT1:T (H.push (.cells a.cells Qh false)):=hT.q.ext H0 _ hw0 hT0 hb1.ext;have fin:∀ (p':Value) (H2:Qa),Ext (H.push (.cells a.cells Qh false)) H2->H2.Wf->∀ (w':List UInt8),w'=w->Qg prog Qr [.pointer (some ⟨D,0,none⟩),.slice (some ⟨H2.next,0,none⟩) 1 1] (H2.push (.cells (Qtz [w']) 9 false)) λu H'=>u=.pointer (some ⟨D,0,none⟩)∧Qmy H0 H D (l++w) v H':=by
  intro p' H2 hx2 hw2 w' e;subst e;refine(JP (hb1.go hx2 hw2) [w'] 1 rfl (by rw[Gz];omega) (by simp)).mono ?_;rintro u H' ⟨rfl,p3,v3,hb3,hst3⟩;rw[Gz]at hb3;exact⟨rfl,p3,v3,hb3,(hst3.pre hx2).pre hx1⟩
 have hl0:=hb.ext;obtain⟨k,⟨rc,rn⟩,⟨⟨bc,bn⟩,⟨ic,nn⟩,sc,d,sz⟩,n⟩:=a;simp only[Ar.cells]at *;simp only[Gn,ex,sxA,sxB,Nat.reduceBEq,Nat.reduceEqDiff,reduceCtorEq];generalize H.push _=H1 at *;simp only[sxA,sxB,Nat.reduceBEq,Nat.reduceEqDiff,reduceCtorEq,mxA,mxB,Nat.reduceAdd,reduceIte,Nat.reduceLeDiff,splice,hg1];unfold VH at ew;refine Qi (λh=>?_) (λh=>?_)
 ·rw[Lc h]at ew;simp only[sxA,sxB,Nat.reduceBEq,Nat.reduceEqDiff,reduceCtorEq,mxA,mxB,Nat.reduceAdd,reduceIte,Nat.reduceLeDiff,splice,hg1];refine(QiQ hT.nm ⟨rc,rn⟩ (ha.r (by simpa using h)) H1 hT1).thenW ?_;rintro _ H2 _ hw2 ⟨rfl,rfl⟩;simp only[sxA,sxB,Nat.reduceBEq,Nat.reduceEqDiff,reduceCtorEq,mxA,mxB,Nat.reduceAdd,reduceIte,Nat.reduceLeDiff,splice,syA];refine(fin p _ (.refl _) hw2 _ ew.symm).thenW ?_;rintro _ H3 hn3 hw3 ⟨rfl,hq⟩;simp only[sxA,sxB,Nat.reduceBEq,Nat.reduceEqDiff,reduceCtorEq,Xo];obtain⟨p3,v3,q1,q2⟩:=hq;exact .mk q2.next ⟨rfl,p3,v3,q1,q2⟩
 ·rw[Le (by simp[h])]at ew;simp only[J1,sxA,sxB,Nat.reduceBEq,Nat.reduceEqDiff,reduceCtorEq,mxA,mxB,Nat.reduceAdd,reduceIte,Nat.reduceLeDiff,splice];refine Qi (λh2=>?_) (λh2=>?_)
  ·rw[Lc h2]at ew;have hmo:MOk ⟨⟨bc,bn⟩,⟨ic,nn⟩,sc,d,sz⟩:=(ha.m (by simpa using h2)).ok;simp only[sxA,sxB,Nat.reduceBEq,Nat.reduceEqDiff,reduceCtorEq,mxA,mxB,Nat.reduceAdd,reduceIte,Nat.reduceLeDiff,splice,hg1];refine(QrP hT hT0 hw0 hb1 hmo (by omega)).thenW ?_;rintro _ H3 hn3 hw3 ⟨rfl,p3,v3,hb3,hst3⟩;rw[<- ew]at hb3;simp only[sxA,sxB,Nat.reduceBEq,Nat.reduceEqDiff,reduceCtorEq,Xo];exact .mk (hst3.pre hx1).next ⟨rfl,p3,v3,hb3,hst3.pre hx1⟩
  ·rw[Le (by simp[h2])]at ew;simp only[JZ,sxA,sxB,Nat.reduceBEq,Nat.reduceEqDiff,reduceCtorEq,mxA,mxB,Nat.reduceAdd,reduceIte,Nat.reduceLeDiff,splice];refine Qi (λh3=>?_) (λh3=>?_)
   ·rw[Lc h3]at ew;simp only[sxA,sxB,Nat.reduceBEq,Nat.reduceEqDiff,reduceCtorEq,mxA,mxB,Nat.reduceAdd,reduceIte,Nat.reduceLeDiff,splice,hg1];refine(Qc8 hT.q n ha.n H1 hT1).thenW ?_;rintro _ H2 _ hw2 ⟨rfl,hx2⟩;simp only[sxA,sxB,Nat.reduceBEq,Nat.reduceEqDiff,reduceCtorEq,mxA,mxB,Nat.reduceAdd,reduceIte,Nat.reduceLeDiff,splice,syA];refine(fin p _ hx2 hw2 _ ew.symm).thenW ?_;rintro _ H3 hn3 hw3 ⟨rfl,hq⟩;simp only[sxA,sxB,Nat.reduceBEq,Nat.reduceEqDiff,reduceCtorEq,Xo];obtain⟨p3,v3,q1,q2⟩:=hq;exact .mk q2.next ⟨rfl,p3,v3,q1,q2⟩
   ·rw[Le (by simp[h3])]at ew;simp only[sxA,sxB,Nat.reduceBEq,Nat.reduceEqDiff,reduceCtorEq,mxA,mxB,Nat.reduceAdd,reduceIte,Nat.reduceLeDiff,splice,hg1];refine(Qc8 hT.q _ (QAk _) H1 hT1).thenW ?_;rintro _ H2 _ hw2 ⟨rfl,hx2⟩;simp only[sxA,sxB,Nat.reduceBEq,Nat.reduceEqDiff,reduceCtorEq,mxA,mxB,Nat.reduceAdd,reduceIte,Nat.reduceLeDiff,splice,syA];refine(fin p _ hx2 hw2 _ ew.symm).thenW ?_;rintro _ H3 hn3 hw3 ⟨rfl,hq⟩;simp only[sxA,sxB,Nat.reduceBEq,Nat.reduceEqDiff,reduceCtorEq,Xo];obtain⟨p3,v3,q1,q2⟩:=hq;exact .mk q2.next ⟨rfl,p3,v3,q1,q2⟩
theorem QCj (H:Qa) (hw:H.Wf):BAt H (H.push (.cells [.pointer none,.slice none 0 0] X3 false)) H.next [] (.pointer none) (.slice none 0 0):=
 ⟨by rw[Qd,Lc rfl],.inl rfl,.inl ⟨rfl,rfl,rfl⟩,Lb _,by simp[Qcc],hw.push _,(Ext.refl H).push _⟩
include hT in
end
theorem QtK {l:Nat} {args:List Value} {H:Qa} {k k':Value->Qa->Prop} (h:YQ prog l args H k) (hk:∀v H',H.next<=H'.next->H'.Wf->k v H'->k' v H'):YQ prog l args H k':=by
 intro hw;obtain⟨v,H',h1,h2,h3,h4⟩:=h hw;exact⟨v,H',h1,h2,h3,hk v H' h2 h3 h4⟩
abbrev pS (b:Nat):Value:=.pointer (some ⟨b,0,none⟩)
theorem QvP (s:List UInt8) (H:Qa):Qg prog YS [.string (mkS s),.string (mkS [32])] H λu H'=>u=.func (.func WA) #[] #[pS (H.next+1),pS H.next,pS (H.next+2)]∧H'=((H.push (.cells [.string (mkS s)] 9 false)).push (.cells [.string (mkS [32])] 9 false)).push (.cells [.int .i64 0] 3 false):=by
 refine Qhz λhw=>?_;simp only[Qap,sxA,sxB,Nat.reduceBEq,Nat.reduceEqDiff,reduceCtorEq,mxA,mxB,Nat.reduceAdd,reduceIte,Nat.reduceLeDiff,splice];have h2:Qg prog JL [.string (mkS s),.string (mkS [32]),.int .i64 0] H λu H'=>u=.func (.func WA) #[] #[pS (H.next+1),pS H.next,pS (H.next+2)]∧H'=((H.push (.cells [.string (mkS s)] 9 false)).push (.cells [.string (mkS [32])] 9 false)).push (.cells [.int .i64 0] 3 false):=by
  refine QhB λhw=>?_;simp only[Qar,sxA,sxB,Nat.reduceBEq,Nat.reduceEqDiff,reduceCtorEq,mxA,mxB,Nat.reduceAdd,reduceIte,Nat.reduceLeDiff,splice];simp only[Qgs,uxA,uxB,Nat.reduceBEq];exact .mk (by simp only[Qe];omega) ⟨rfl,rfl⟩
 refine h2.thenW ?_;rintro _ H1 hn hw1 ⟨rfl,rfl⟩;simp only[sxA,sxB,Nat.reduceBEq,Nat.reduceEqDiff,reduceCtorEq,mxA,mxB,Nat.reduceAdd,reduceIte,Nat.reduceLeDiff,splice,Qgr];exact .mk hn ⟨rfl,rfl⟩
theorem QvQ {l bs ss bk:Nat} (s:List UInt8) (hl:s.length<=1000000) (H:Qa) (R:Nat->Qa->Prop) (Z:Qa->Prop)
  (hb:∀j H',R j H'->H.next<=H'.next∧(∃e ro,H'.get bs=some (.cells [.string (mkS [32])] e ro))∧∃e ro,H'.get bk=some (.cells [.int .i64 0] e ro))
  (hz:∀H',Z H'->H.next<=H'.next) (hs:∀j H' x v,R j H'->H'.get ss=some (.cells [x] 9 false)->R j (H'.set ss (.cells [v] 9 false)))
  (hy:∀j w H' x,(XO s)[j]? = some w->R j H'->H'.get ss=some (.cells [x] 9 false)->YQ prog l [.string (mkS w)] H' λv H2=>(v=.bool true∧R (j+1) H2∧H2.get ss=some (.cells [x] 9 false))∨(v=.bool false∧Z H2))
  (h0:R 0 H) (hg:H.get ss=some (.cells [.string (mkS s)] 9 false)):
  Qg prog WA [.func (.yield l) #[] #[],pS bs,pS ss,pS bk] H λv H'=>R (XO s).length H'∨Z H':=by
 refine QfW λhw=>?_;obtain⟨_,⟨e1,ro1,g1⟩,⟨e2,ro2,g2⟩⟩:=hb 0 H h0;have z1:(((1:Nat):Int)==0)=false:=rfl;simp only[Gw,J4,sxA,sxB,Nat.reduceBEq,Nat.reduceEqDiff,reduceCtorEq,mxA,mxB,Nat.reduceAdd,reduceIte,Nat.reduceLeDiff,splice,g1,QaY,VN,z1];refine QB (λm A' H'=>∃ (j:Nat) (r:List UInt8),m=r.length+1∧H'.Wf∧R j H'∧(XO s).drop j=XO r∧r.length<=s.length∧H'.get ss=some (.cells [.string (mkS r)] 9 false)∧A' 0=.func (.yield l) #[] #[]∧A' 1=pS bs∧A' 2=pS ss∧A' 3=pS bk) (s.length+1) ?_ ?_
 ·refine⟨0,s,rfl,hw,h0,rfl,Lb _,hg,?_,?_,?_,?_⟩
  all_goals simp only[uxA,uxB,Nat.reduceBEq]
 ·rintro m A' H1 ⟨j,r,hm,hw1,hR,hd,hrl,hgs,r0,r1,r2,r3⟩;obtain⟨hn1,⟨e1,ro1,g1⟩,⟨e2,ro2,g2⟩⟩:=hb j H1 hR;simp only[J3,J2,sxA,sxB,Nat.reduceBEq,Nat.reduceEqDiff,reduceCtorEq,mxA,mxB,Nat.reduceAdd,reduceIte,Nat.reduceLeDiff,splice,r0,r1,r2,r3,g1,g2,hgs];refine(Qz4 r 32 H1).thenW ?_;rintro _ H2 _ hw2 ⟨rfl,rfl⟩;have hge:=Lib.indexByte_ge r 32
  by_cases hneg:Lib.indexByte r 32<0
  ·have hnone:=Qmx r (Qz5 hneg);rw[hnone]at hd;have hj:(XO s)[j]? = some r:=by
    have:=congrArg (·[0]?) hd;simpa using this
   have hlen:(XO s).length=j+1:=by
    have:=congrArg List.length hd;rw[NT]at this;simp only[Lo,L9]at this;omega
   have d1:decide (Lib.indexByte r 32<0)=true:=Lp hneg;simp only[sxA,sxB,Nat.reduceBEq,Nat.reduceEqDiff,reduceCtorEq,mxA,mxB,Nat.reduceAdd,reduceIte,Nat.reduceLeDiff,splice,r0,r2,d1,hgs,ZT];refine QtK (hy j r H2 _ hj hR hgs) ?_;rintro v H3 hn3 hw3 hv;simp only[sxA,sxB,Nat.reduceBEq,Nat.reduceEqDiff,reduceCtorEq,mxA,mxB,Nat.reduceAdd,reduceIte,Nat.reduceLeDiff,splice,Kr];rcases hv with⟨rfl,hR3,_⟩ | ⟨rfl,hZ⟩
   ·exact .mk (hb _ _ hR3).1 (.inl (by rw[hlen];exact hR3))
   ·exact .mk (hz _ hZ) (.inr hZ)
  ·obtain⟨o,ho⟩:∃o:Nat,Lib.indexByte r 32=o:=⟨(Lib.indexByte r 32).toNat,by omega⟩;obtain⟨ho1,ho2,ho3⟩:=Qz6 ho;have d1:decide ((o:Int)<0)=false:=Lj (by omega);have w5:IntKind.i64.wrap ((o:Int)+0)=(o:Int):=w64 (by unfold I64;omega);have w6:IntKind.i64.wrap ((o:Int)+((1:Nat):Int))=((o+1:Nat):Int):=by rw[w64 (by unfold I64;omega)];rfl
   have hcut:XO r=r.take o::XO (r.drop (o+1)):=by
    have:=Qop (r.take o) (r.drop (o+1)) ho3;rwa [<- ho2]at this
   rw[hcut]at hd;have hj:(XO s)[j]? = some (r.take o):=by
    have:=congrArg (·[0]?) hd;simpa using this
   have hd2:(XO s).drop (j+1)=XO (r.drop (o+1)):=by
    have:=congrArg List.tail hd;simpa using this
   simp only[sxA,sxB,Nat.reduceBEq,Nat.reduceEqDiff,reduceCtorEq,mxA,mxB,Nat.reduceAdd,reduceIte,Nat.reduceLeDiff,splice,ho,r0,r1,r2,r3,d1,hgs,g1,g2,w5];rw[Qyt (s:=mkS r) (h:=o) (ik:=.i64) (by kernel_rfl) (by simp only[uxA,uxB,Nat.reduceBEq]) (by simp only[uxA,uxB,Nat.reduceBEq]) (by rw[VN];omega)];simp only[sxA,sxB,Nat.reduceBEq,Nat.reduceEqDiff,reduceCtorEq,mxA,mxB,Nat.reduceAdd,reduceIte,Nat.reduceLeDiff,splice,r0,r1,r2,r3,ZT,VN];refine QtK (hy j (r.take o) H2 _ hj hR hgs) ?_;rintro v H3 hn3 hw3 hv;rcases hv with⟨rfl,hR3,hgs3⟩ | ⟨rfl,hZ⟩
   ·obtain⟨hn4,⟨e3,ro3,g3⟩,⟨e4,ro4,g4⟩⟩:=hb _ _ hR3;simp only[sxA,sxB,Nat.reduceBEq,Nat.reduceEqDiff,reduceCtorEq,mxA,mxB,Nat.reduceAdd,reduceIte,Nat.reduceLeDiff,splice,r0,r1,r2,r3,hgs3,g3,QaY,VN,Lo,L9,w6];rw[Qys (s:=mkS r) (l:=o+1) (ik:=.i64) (by kernel_rfl) (by simp only[uxA,uxB,Nat.reduceBEq]) (by simp only[uxA,uxB,Nat.reduceBEq]) (by rw[VN];omega)];simp only[sxA,sxB,Nat.reduceBEq,Nat.reduceEqDiff,reduceCtorEq,mxA,mxB,Nat.reduceAdd,reduceIte,Nat.reduceLeDiff,splice,syA,r0,r1,r2,r3,hgs3];refine⟨(r.drop (o+1)).length+1,by rw[NT];omega,j+1,r.drop (o+1),rfl,hw3.set hgs3 _,hs _ _ _ _ hR3 hgs3,hd2,by rw[NT];omega,by rw[Qn,Lc rfl],?_,?_,?_,?_⟩
    all_goals simp only[uxA,uxB,Nat.reduceBEq,r0,r1,r2,r3]
   ·simp only[sxA,sxB,Nat.reduceBEq,Nat.reduceEqDiff,reduceCtorEq,mxA,mxB,Nat.reduceAdd,reduceIte,Nat.reduceLeDiff,splice,Kr];exact .mk (hz _ hZ) (.inr hZ)
def QiT:List UInt8:=[97,100,100,32,111,114,32,97,100,99,32,115,98,98,32,97,110,100,32,115,117,98,32,120,111,114,32,99,109,112,32,109,111,118,32,116,101,115,116,32,120,99,104,103,32,108,101,97,32,109,111,118,122,120,32,109,111,118,115,120,32,109,111,118,115,120,100,32,105,109,117,108,32,105,110,99,32,100,101,99,32,110,101,103,32,110,111,116,32,109,117,108,32,100,105,118,32,105,100,105,118,32,114,111,108,32,114,111,114,32,114,99,108,32,114,99,114,32,115,104,108,32,115,104,114,32,115,97,114,32,115,104,108,100,32,115,104,114,100,32,98,115,119,97,112,32,120,97,100,100,32,99,109,112,120,99,104,103,32,98,116,32,98,116,115,32,98,116,114,32,98,116,99,32,98,115,102,32,98,115,114,32,99,98,119,32,99,119,100,101,32,99,100,113,101,32,99,119,100,32,99,100,113,32,99,113,111,32,112,117,115,104,32,112,111,112,32,110,111,112,32,114,101,116,32,108,101,97,118,101,32,99,97,108,108,32,106,109,112,32,105,110,116,51,32,115,121,115,99,97,108,108,32,117,100,50,32,104,108,116,32,99,108,99,32,115,116,99,32,99,109,99,32,99,108,100,32,115,116,100,32,108,97,104,102,32,115,97,104,102,32,99,112,117,105,100,32,114,100,116,115,99,32,106,111,32,106,110,111,32,106,98,32,106,97,101,32,106,101,32,106,110,101,32,106,98,101,32,106,97,32,106,115,32,106,110,115,32,106,112,32,106,110,112,32,106,108,32,106,103,101,32,106,108,101,32,106,103,32,115,101,116,111,32,115,101,116,110,111,32,115,101,116,98,32,115,101,116,97,101,32,115,101,116,101,32,115,101,116,110,101,32,115,101,116,98,101,32,115,101,116,97,32,115,101,116,115,32,115,101,116,110,115,32,115,101,116,112,32,115,101,116,110,112,32,115,101,116,108,32,115,101,116,103,101,32,115,101,116,108,101,32,115,101,116,103,32,99,109,111,118,111,32,99,109,111,118,110,111,32,99,109,111,118,98,32,99,109,111,118,97,101,32,99,109,111,118,101,32,99,109,111,118,110,101,32,99,109,111,118,98,101,32,99,109,111,118,97,32,99,109,111,118,115,32,99,109,111,118,110,115,32,99,109,111,118,112,32,99,109,111,118,110,112,32,99,109,111,118,108,32,99,109,111,118,103,101,32,99,109,111,118,108,101,32,99,109,111,118,103,32,112,111,112,99,110,116,32,108,122,99,110,116,32,116,122,99,110,116,32,97,110,100,110,32,98,101,120,116,114,32,98,108,115,105,32,98,108,115,109,115,107,32,98,108,115,114,32,98,122,104,105,32,112,100,101,112,32,112,101,120,116,32,109,117,108,120,32,114,111,114,120,32,115,97,114,120,32,115,104,108,120,32,115,104,114,120,32,97,100,99,120,32,97,100,111,120,32,109,111,118,98,101,32,99,114,99,51,50,32,109,111,118,97,112,115,32,109,111,118,117,112,115,32,109,111,118,97,112,100,32,109,111,118,117,112,100,32,109,111,118,100,113,97,32,109,111,118,100,113,117,32,109,111,118,115,115,32,109,111,118,115,100,32,109,111,118,100,32,109,111,118,113,32,97,100,100,112,115,32,97,100,100,112,100,32,97,100,100,115,115,32,97,100,100,115,100,32,115,117,98,112,115,32,115,117,98,112,100,32,115,117,98,115,115,32,115,117,98,115,100,32,109,117,108,112,115,32,109,117,108,112,100,32,109,117,108,115,115,32,109,117,108,115,100,32,100,105,118,112,115,32,100,105,118,112,100,32,100,105,118,115,115,32,100,105,118,115,100,32,109,105,110,112,115,32,109,105,110,112,100,32,109,105,110,115,115,32,109,105,110,115,100,32,109,97,120,112,115,32,109,97,120,112,100,32,109,97,120,115,115,32,109,97,120,115,100,32,115,113,114,116,112,115,32,115,113,114,116,112,100,32,115,113,114,116,115,115,32,115,113,114,116,115,100,32,97,110,100,112,115,32,97,110,100,112,100,32,97,110,100,110,112,115,32,97,110,100,110,112,100,32,111,114,112,115,32,111,114,112,100,32,120,111,114,112,115,32,120,111,114,112,100,32,117,99,111,109,105,115,115,32,117,99,111,109,105,115,100,32,99,111,109,105,115,115,32,99,111,109,105,115,100,32,99,118,116,115,105,50,115,115,32,99,118,116,115,105,50,115,100,32,99,118,116,116,115,115,50,115,105,32,99,118,116,116,115,100,50,115,105,32,99,118,116,115,115,50,115,100,32,99,118,116,115,100,50,115,115,32,115,104,117,102,112,115,32,115,104,117,102,112,100,32,117,110,112,99,107,108,112,115,32,117,110,112,99,107,108,112,100,32,117,110,112,99,107,104,112,115,32,117,110,112,99,107,104,112,100,32,112,97,100,100,98,32,112,97,100,100,119,32,112,97,100,100,100,32,112,97,100,100,113,32,112,115,117,98,98,32,112,115,117,98,119,32,112,115,117,98,100,32,112,115,117,98,113,32,112,109,117,108,108,119,32,112,109,117,108,108,100,32,112,109,117,108,117,100,113,32,112,97,110,100,32,112,97,110,100,110,32,112,111,114,32,112,120,111,114,32,112,99,109,112,101,113,98,32,112,99,109,112,101,113,119,32,112,99,109,112,101,113,100,32,112,99,109,112,103,116,98,32,112,99,109,112,103,116,119,32,112,99,109,112,103,116,100,32,112,109,105,110,117,98,32,112,109,97,120,117,98,32,112,109,105,110,115,119,32,112,109,97,120,115,119,32,112,97,118,103,98,32,112,97,118,103,119,32,112,115,97,100,98,119,32,112,117,110,112,99,107,108,98,119,32,112,117,110,112,99,107,108,119,100,32,112,117,110,112,99,107,108,100,113,32,112,117,110,112,99,107,108,113,100,113,32,112,117,110,112,99,107,104,98,119,32,112,117,110,112,99,107,104,119,100,32,112,117,110,112,99,107,104,100,113,32,112,117,110,112,99,107,104,113,100,113,32,112,97,99,107,115,115,119,98,32,112,97,99,107,117,115,119,98,32,112,97,99,107,115,115,100,119,32,112,97,99,107,117,115,100,119,32,112,115,104,117,102,98,32,112,104,97,100,100,119,32,112,104,97,100,100,100,32,112,97,98,115,98,32,112,97,98,115,119,32,112,97,98,115,100,32,112,115,108,108,119,32,112,115,108,108,100,32,112,115,108,108,113,32,112,115,114,108,119,32,112,115,114,108,100,32,112,115,114,108,113,32,112,115,114,97,119,32,112,115,114,97,100,32,112,115,108,108,100,113,32,112,115,114,108,100,113,32,112,115,104,117,102,100,32,112,115,104,117,102,108,119,32,112,115,104,117,102,104,119,32,112,97,108,105,103,110,114,32,112,98,108,101,110,100,119,32,112,109,111,118,109,115,107,98,32,112,116,101,115,116,32,114,111,117,110,100,115,115,32,114,111,117,110,100,115,100,32,118,109,111,118,97,112,115,32,118,109,111,118,117,112,115,32,118,109,111,118,97,112,100,32,118,109,111,118,117,112,100,32,118,109,111,118,100,113,97,32,118,109,111,118,100,113,117,32,118,97,100,100,112,115,32,118,97,100,100,112,100,32,118,97,100,100,115,115,32,118,97,100,100,115,100,32,118,115,117,98,112,115,32,118,115,117,98,112,100,32,118,115,117,98,115,115,32,118,115,117,98,115,100,32,118,109,117,108,112,115,32,118,109,117,108,112,100,32,118,109,117,108,115,115,32,118,109,117,108,115,100,32,118,100,105,118,112,115,32,118,100,105,118,112,100,32,118,100,105,118,115,115,32,118,100,105,118,115,100,32,118,109,105,110,112,115,32,118,109,105,110,112,100,32,118,109,97,120,112,115,32,118,109,97,120,112,100,32,118,97,110,100,112,115,32,118,97,110,100,112,100,32,118,111,114,112,115,32,118,111,114,112,100,32,118,120,111,114,112,115,32,118,120,111,114,112,100,32,118,112,97,100,100,98,32,118,112,97,100,100,119,32,118,112,97,100,100,100,32,118,112,97,100,100,113,32,118,112,115,117,98,98,32,118,112,115,117,98,119,32,118,112,115,117,98,100,32,118,112,115,117,98,113,32,118,112,97,110,100,32,118,112,97,110,100,110,32,118,112,111,114,32,118,112,120,111,114,32,118,112,99,109,112,101,113,98,32,118,112,99,109,112,101,113,119,32,118,112,99,109,112,101,113,100,32,118,112,115,104,117,102,98,32,118,112,115,104,117,102,100,32,118,112,97,108,105,103,110,114,32,118,112,98,108,101,110,100,118,98,32,118,122,101,114,111,117,112,112,101,114,32,118,122,101,114,111,97,108,108,32,118,112,116,101,115,116,32,118,102,109,97,100,100,49,51,50,112,115,32,118,102,109,97,100,100,50,49,51,112,115,32,118,102,109,97,100,100,50,51,49,112,115,32,118,102,109,97,100,100,49,51,50,112,100,32,118,102,109,97,100,100,50,49,51,112,100,32,118,102,109,97,100,100,50,51,49,112,100]
def nmL:List (List UInt8):=XO QiT
def nmF (op:Int):List UInt8:=if Xh op then nmL.getD (op - 1).toNat [] else[]
theorem QrR:nmL.length=322:=by decide +kernel
theorem QEe:Qgq=(.seq (.ops [Ow 3 (.alloc 3 [.int .i64 0]),Ov (.st 1 (t 3) (Ci 0))]) (.seq (.seq (.ops [Ow 8 (.call YS [(.const (.string (mkS QiT))),(.const (.string (mkS [32])))])]) (.block 0 (.rangeF (t 8) [9] (.ops [Om 4 (t 9)]) Qbf))) (.seq (.ops [Ov (.st 1 (t 2) (.const (.string (mkS []))))]) .ret))):=rfl
theorem QtL (op:Int) (H:Qa):Qg prog Qgk [.int .i64 op] H λu H'=>u=.string (mkS (nmF op))∧Ext H H':=by
 refine QrA λhw=>?_;simp only[QjP,sxA,sxB,Nat.reduceBEq,Nat.reduceEqDiff,reduceCtorEq,mxA,mxB,Nat.reduceAdd,reduceIte,Nat.reduceLeDiff,splice];refine(QaQ op _).thenW ?_;rintro _ H1 hn hw1 ⟨rfl,hH1⟩;have hx1:Ext H H1:=by rw[hH1];exact((Ext.refl H).push _).push _
 have hn1:H1.next=H.next+2:=by rw[hH1];rfl
 have g0:H1.get H.next=some (.cells [.int .i64 op] 3 false):=by rw[hH1,Qd,Le (by rw[Qe];omega),Qd,Lc rfl]
 have g1:H1.get (H.next+1)=some (.cells [.string (mkS [])] 9 false):=by rw[hH1,Qd,Lc (by rw[Qe])]
 clear hH1;unfold nmF;cases hv:Xh op with
 | false=>
  simp only[sxA,sxB,Nat.reduceBEq,Nat.reduceEqDiff,reduceCtorEq,mxA,mxB,Nat.reduceAdd,reduceIte,Nat.reduceLeDiff,splice,syA,g1,QhU,LV];exact .mk (by rw[QE];omega) ⟨rfl,hx1.set (by omega) _⟩
 | true=>
  have hop:1<=op∧op<=322:=by unfold Xh at hv;simpa using hv
  have hslot:¬H1.next=H.next:=by omega
  simp only[QEe,sxA,sxB,Nat.reduceBEq,Nat.reduceEqDiff,reduceCtorEq,mxA,mxB,Nat.reduceAdd,reduceIte,Nat.reduceLeDiff,splice,hn1];generalize hH2:(H1.push (.cells [.int .i64 0] 3 false)).set (H.next+2) (.cells [.int .i64 0] 3 false)=H2;have hw2:H2.Wf:=by rw[<- hH2];exact(hw1.push _).set (b0:=.cells [.int .i64 0] 3 false) (by rw[Qd,Lc hn1.symm]) _
  have hn2:H2.next=H.next+3:=by rw[<- hH2,QE,Qe,hn1]
  have hx2:Ext H H2:=by rw[<- hH2];exact(hx1.push _).set (by omega) _
  have k0:H2.get H.next=some (.cells [.int .i64 op] 3 false):=by rw[<- hH2,Qn,Le (by omega),Qd,Le (by omega)];exact g0
  have k1:H2.get (H.next+1)=some (.cells [.string (mkS [])] 9 false):=by rw[<- hH2,Qn,Le (by omega),Qd,Le (by omega)];exact g1
  have k2:H2.get (H.next+2)=some (.cells [.int .i64 0] 3 false):=by rw[<- hH2,Qn,Lc rfl]
  clear hH2;refine(QvP QiT H2).thenW ?_;rintro _ H3 hn3 hw3 ⟨rfl,hH3⟩;have hn3:H3.next=H.next+6:=by rw[hH3];simp only[Qe,hn2]
  have hx3:Ext H H3:=by rw[hH3];exact((hx2.push _).push _).push _
  have old:∀id b,H2.get id=some b->H3.get id=some b:=λid b hb=>by
   have:=hw2.lt hb;rw[hH3,Qd,Le (by simp only[Qe];omega),Qd,Le (by simp only[Qe];omega),Qd,Le (by omega)];exact hb
  have s0:H3.get (H.next+3)=some (.cells [.string (mkS QiT)] 9 false):=by
   rw[hH3,Qd,Le (by simp only[Qe];omega),Qd,Le (by simp only[Qe];omega),Qd,Lc hn2.symm]
  have s1:H3.get (H.next+4)=some (.cells [.string (mkS [32])] 9 false):=by
   rw[hH3,Qd,Le (by simp only[Qe];omega),Qd,Lc (by simp only[Qe];omega)]
  have s2:H3.get (H.next+5)=some (.cells [.int .i64 0] 3 false):=by
   rw[hH3,Qd,Lc (by simp only[Qe];omega)]
  have k0:=old _ _ k0;have k1:=old _ _ k1;have k2:=old _ _ k2;clear hH3 old;simp only[sxA,sxB,Nat.reduceBEq,Nat.reduceEqDiff,reduceCtorEq,mxA,mxB,Nat.reduceAdd,reduceIte,Nat.reduceLeDiff,splice,hn2,hn3,Kn];rw[Qgi WA [] [pS (H.next+4),pS (H.next+3),pS (H.next+5)]];intro L hY;refine⟨by kernel_rfl,?_⟩;simp only[hn3,LH,Nm]
  let R:Nat->Qa->Prop:=λj H'=>(j:Int)<op∧H.next+7<=H'.next∧Ext H H'∧H'.get H.next=some (.cells [.int .i64 op] 3 false)∧(∃x,H'.get (H.next+1)=some (.cells [x] 9 false))∧H'.get (H.next+2)=some (.cells [.int .i64 j] 3 false)∧H'.get (H.next+4)=some (.cells [.string (mkS [32])] 9 false)∧H'.get (H.next+5)=some (.cells [.int .i64 0] 3 false)∧H'.get (H.next+6)=some (L none)
  let Z:Qa->Prop:=λH'=>H.next+7<=H'.next∧Ext H H'∧H'.get (H.next+1)=some (.cells [.string (mkS (nmL.getD (op - 1).toNat []))] 9 false)∧H'.get (H.next+6)=some (L (some .ret))
  have hn4:(H3.push (L none)).next=H.next+7:=by rw[Qe,hn3]
  refine(QvQ (l:=H.next+6) (bs:=H.next+4) (ss:=H.next+3) (bk:=H.next+5) QiT (by decide +kernel) (H3.push (L none)) R Z ?_ ?_ ?_ ?_ ?_ ?_).thenW ?_
  ·rintro j H' ⟨_,h1,_,_,_,_,h2,h3,_⟩;exact⟨by omega,⟨_,_,h2⟩,⟨_,_,h3⟩⟩
  ·rintro H' ⟨h1,_⟩;omega
  ·rintro j H' x v ⟨h0,h1,h2,h3,⟨y,h4⟩,h5,h6,h7,h8⟩ hx;exact⟨h0,by rw[QE];exact h1,h2.set (by omega) _,by rw[Qn,Le (by omega)];exact h3,⟨y,by rw[Qn,Le (by omega)];exact h4⟩,by rw[Qn,Le (by omega)];exact h5,by rw[Qn,Le (by omega)];exact h6,by rw[Qn,Le (by omega)];exact h7,by rw[Qn,Le (by omega)];exact h8⟩
  ·rintro j w H' x hj ⟨h0,h1,h2,h3,⟨y,h4⟩,h5,h6,h7,h8⟩ hx;refine hY _ _ _ _ h8 rfl ?_;have kk:∀id,id≠H.next+6->(H'.kill (H.next+6)).get id=H'.get id:=λid hid=>by rw[Wd,Le hid]
   have wj:IntKind.i64.wrap ((j:Int)+1)=((j+1:Nat):Int):=by rw[w64 (by unfold I64;omega)];rfl
   have e0:=(kk H.next (by omega)).trans h3;have e1:=(kk (H.next+1) (by omega)).trans h4;have e2:=(kk (H.next+2) (by omega)).trans h5;have e4:=(kk (H.next+4) (by omega)).trans h6;have e5:=(kk (H.next+5) (by omega)).trans h7;have e3:=(kk (H.next+3) (by omega)).trans hx;have hxk:Ext H (H'.kill (H.next+6)):=⟨by show H.next<=H'.next;omega,λid hid=>by rw[kk id (by omega)];exact h2.get id hid⟩;have hnk:(H'.kill (H.next+6)).next=H'.next:=rfl;generalize H'.kill (H.next+6)=H4 at *;have q0:(H4.set (H.next+2) (.cells [.int .i64 ((j+1:Nat):Int)] 3 false)).get H.next=some (.cells [.int .i64 op] 3 false):=by rw[Qn,Le (by omega)];exact e0
   have q1:(H4.set (H.next+2) (.cells [.int .i64 ((j+1:Nat):Int)] 3 false)).get (H.next+1)=some (.cells [y] 9 false):=by rw[Qn,Le (by omega)];exact e1
   have q2:(H4.set (H.next+2) (.cells [.int .i64 ((j+1:Nat):Int)] 3 false)).get (H.next+2)=some (.cells [.int .i64 ((j+1:Nat):Int)] 3 false):=by rw[Qn,Lc rfl]
   simp only[Qbf,sxA,sxB,Nat.reduceBEq,Nat.reduceEqDiff,reduceCtorEq,mxA,mxB,Nat.reduceAdd,reduceIte,Nat.reduceLeDiff,splice,syA,rgA,e2,wj,q0,q2];cases hb:(((j+1:Nat):Int)==op) with
   | true=>
    have hop1:(op - 1).toNat=j:=by have:=L0.1 hb;omega
    have hw0:nmL.getD (op - 1).toNat []=w:=by
     rw[hop1,LX];show((XO QiT)[j]?).getD []=w;rw[hj];rfl
    simp only[sxA,sxB,Nat.reduceBEq,Nat.reduceEqDiff,reduceCtorEq,mxA,mxB,Nat.reduceAdd,reduceIte,Nat.reduceLeDiff,splice,syA,rgA,q1];refine⟨by omega,.inr ⟨by simp only[QE];omega,((hxk.set (by omega) _).set (by omega) _).set (by omega) _,?_,by rw[Qn,Lc rfl]⟩⟩;rw[Qn,Le (by omega),Qn,Lc rfl,hw0]
   | false=>
    have hne:=LC.1 hb;simp only[sxA,sxB,Nat.reduceBEq,Nat.reduceEqDiff,reduceCtorEq,mxA,mxB,Nat.reduceAdd,reduceIte,Nat.reduceLeDiff,splice,rgA];refine⟨by omega,.inl ⟨⟨by omega,by simp only[QE];omega,(hxk.set (by omega) _).set (by omega) _,?_,⟨y,?_⟩,?_,?_,?_,by rw[Qn,Lc rfl]⟩,?_⟩⟩
    rotate_right
    ·exact e3
    all_goals (rw[Qn,Le (by omega)])
    ·exact q0
    ·exact q1
    ·exact q2
    all_goals (rw[Qn,Le (by omega)])
    ·exact e4
    ·exact e5
  ·refine⟨by omega,by omega,hx3.push _,?_,⟨.string (mkS []),?_⟩,?_,?_,?_,by rw[Qd,Lc hn3.symm]⟩
   all_goals (rw[Qd,Le (by omega)])
   ·exact k0
   ·exact k1
   ·exact k2
   ·exact s1
   ·exact s2
  ·rw[Qd,Le (by omega)];exact s0
  ·rintro v H5 hn5 hw5 hv5;rcases hv5 with⟨h0,_⟩ | ⟨h1,h2,h3,h4⟩
   ·exfalso;have:(XO QiT).length=322:=QrR;rw[this]at h0;omega
   ·refine⟨some .ret,h4,?_⟩;have h3:(H5.kill (H.next+6)).get (H.next+1)=some (.cells [.string (mkS (nmL.getD (op - 1).toNat []))] 9 false):=by rw[Wd,Le (by omega)];exact h3
    simp only[sxA,sxB,Nat.reduceBEq,Nat.reduceEqDiff,reduceCtorEq,mxA,mxB,Nat.reduceAdd,reduceIte,Nat.reduceLeDiff,splice,rgA,QhU,h3];exact .mk (by show H.next<=H5.next;omega) ⟨rfl,⟨by show H.next<=H5.next;omega,λid hid=>by rw[Wd,Le (by omega)];exact h2.get id hid⟩⟩
def QeX (i:Nat):List UInt8:=if i=0 then[32] else[44,32]
def Qat (next:Int) (l:List Ar):List UInt8:=(l.zipIdx.map λp=>QeX p.2++VH next p.1).flatten
theorem QvT (next:Int) (l:List Ar) (a:Ar):Qat next (l++[a])=Qat next l++(QeX l.length++VH next a):=by
 unfold Qat;rw[List.zipIdx_append];simp
theorem QoD {next:Int} {l:List Ar} {i:Nat} {a:Ar} (h:l[i]? = some a):Qat next (l.take (i+1))=Qat next (l.take i)++(QeX i++VH next a):=by
 have hi:=(Lk.1 h).1;have:l.take (i+1)=l.take i++[a]:=by rw[Nv,h];rfl
 rw[this,QvT,Sb,BC (by omega)]
theorem QqU {next:Int} {l:List Ar} (h:∀a∈l,AOk a):∀i,(Qat next (l.take i)).length<=200 * i
 | 0=>by simp[Qat]
 | i+1=>by
  have ih:=QqU (next:=next) h i
  cases hi:l[i]? with
  | none=>
   have hle:l.length<=i:=Db.1 hi;rw[LF (by omega),<- LF hle];omega
  | some a=>
   rw[QoD hi,Lh,Lh];have h1:=QtJ (next:=next) (h a (Ln hi))
   have h2:(QeX i).length<=2:=by unfold QeX;split<;>simp
   omega
def QqV (n:Int):List UInt8:=if(n==1)=true then[32,115,104,111,114,116] else if(n==2)=true then[32,110,101,97,114] else if(n==3)=true then[32,115,116,114,105,99,116] else[]
def GA (op:Int) (l:List Ar) (hint next:Int):List UInt8×Int:=
 if((Qt op l).2.2==0)=true then(if 0<=hint∧hint<=3 then(nmF (Qt op l).1++QqV hint++Qat next (Qt op l).2.1,0) else([],2)) else([],(Qt op l).2.2)
theorem QtN:(nmL.all λw=>decide (1<=w.length)&&decide (w.length<=100))=true:=by decide +kernel
theorem QCk (op:Int):(nmF op).length<=100:=by
 unfold nmF;split
 ·rw[LX];cases h:nmL[(op - 1).toNat]? with
  | none=>simp
  | some w=>
   have:=Li.1 QtN w (Ln h);simp at this;simp;omega
 ·simp
theorem QEg {op:Int} (h:Xh op=true):1<=(nmF op).length:=by
 have h':=h;unfold Xh at h';simp only[Lm,Lv]at h';unfold nmF;rw[h,Lc rfl,LX];have hl:=QrR;have:(op - 1).toNat<nmL.length:=by omega
 rw[La this];have:=Li.1 QtN _ (Nb this);simp at this;simp;omega
section
variable {T:Qa->Prop} (hT:QyE T) {H0 H:Qa} (hw0:H0.Wf) (hT0:T H0) {D:Nat} {w:List UInt8} {v:Value}
abbrev KTx (H:Qa) (r:List UInt8×Int):Env->Qa->Prop:=Rt prog Qrz H λu H'=>u=.tuple #[.string (mkS r.1),.int .i64 r.2]∧Ext H H'
include hT hT0 hw0 in
theorem QCl (hx0:Ext H H0) {I:Nat} {op next:Int} {va:Value} {l:List Ar} (hI:H0.get I=some (.cells [.int .i64 op,va] Qc false)) (hv:Q0 H0 va l) (hl:l.length<=5) (hok:∀a∈l,AOk a)
  {p:Value} {H':Qa} {A:Env} (hb:BAt H0 H' D w p v) (hw:1<=w.length∧w.length<=1000) (r9:A 9=.pointer (some ⟨D,0,none⟩)) (r3:A 3=.pointer (some ⟨I,0,none⟩)) (r2:A 2=.int .i64 next) (e:Nat->Env->Qa->Prop):
  Qs prog Jy ⟨KTx H (w++Qat next l,0),e⟩ (KTx H (w++Qat next l,0)) A H':=by
 obtain⟨a0,cap,rfl,h1⟩:=hv;have hgI:H'.get I=some (.cells [.int .i64 op,.slice a0 l.length cap] Qc false):=by rw[hb.ext.get I (hw0.lt hI)];exact hI
 obtain⟨r,er⟩:∃r,r=(w++Qat next l,(0:Int)):=⟨_,rfl⟩;rw[<- er];simp only[Jy,sxA,sxB,Nat.reduceBEq,Nat.reduceEqDiff,reduceCtorEq,mxA,mxB,Nat.reduceAdd,reduceIte,Nat.reduceLeDiff,splice,r3,hgI,QU];refine QB (λm A' H2=>∃ (i:Nat) (p' v':Value),i<=l.length∧m=l.length - i∧BAt H0 H2 D (w++Qat next (l.take i)) p' v'∧A' 9=.pointer (some ⟨D,0,none⟩)∧A' 2=.int .i64 next∧A' 47=.slice a0 l.length cap∧A' 48=.int .i64 l.length∧A' 49=.int .i64 i) l.length ?_ ?_
 ·refine⟨0,p,v,L7 _,by omega,by simpa[Qat] using hb,?_,?_,?_,?_,?_⟩
  all_goals simp only[uxA,uxB,Nat.reduceBEq,r9,r2]
  all_goals rfl
 ·rintro m A' H2 ⟨i,p',v',hi,rfl,hb',q9,q2,q47,q48,q49⟩;have hal:=QqU (next:=next) hok i
  simp only[Qe9,sxA,sxB,Nat.reduceBEq,Nat.reduceEqDiff,reduceCtorEq,mxA,mxB,Nat.reduceAdd,reduceIte,Nat.reduceLeDiff,splice,q48,q49];refine Qi (λh2=>?_) (λh2=>?_)
  ·have h2:i<l.length:=by have:=Lg h2;omega
   obtain⟨a,ha⟩:∃a,l[i]? = some a:=⟨_,La h2⟩;have hoka:=hok a (Ln ha);obtain⟨b,e,ro,rfl,hgb0⟩:=h1 (by omega);have hgb:H2.get b=some (.cells (Qo l) e ro):=by rw[hb'.ext.get b (hw0.lt hgb0)];exact hgb0
   have htk:=Xd l i a ha;have hle:i * 11+11<=(Qo l).length:=by rw[QW];omega
   have d1:(0:Int)<=i∧(i:Int)<l.length:=by omega
   have d3:(i:Int).toNat=i:=by omega
   have ei:IntKind.i64.wrap ((i:Int)+1)=((i+1:Nat):Int):=by rw[w64 (by unfold I64;omega)];omega
   have hall:(a.cells.all λx=>x.oneCell')=true:=rfl;simp only[Qe8,sxA,sxB,Nat.reduceBEq,Nat.reduceEqDiff,reduceCtorEq,mxA,mxB,Nat.reduceAdd,reduceIte,Nat.reduceLeDiff,splice,q9,q2,q47,q49,d1,d3,hgb,htk,cgA,Wi];refine⟨hle,hall,by omega,?_⟩;generalize hH3:(H2.push _).set H2.next _=H3;have hx3:Ext H2 H3:=by rw[<- hH3];exact((Ext.refl H2).push _).set (Lb _) _
   have hg3:H3.get H2.next=some (.cells a.cells Qh false):=by rw[<- hH3,Qn,Lc rfl]
   have hw3:H3.Wf:=by rw[<- hH3];exact(hb'.wf.push _).set (b0:=.cells [.int .i64 0,.int .i64 0,.int .i64 0,.int .i64 0,.int .i64 0,.int .i64 0,.int .i64 0,.int .i64 0,.int .i64 0,.int .i64 0,.int .i64 0] Qh false) (by rw[Qd,Lc rfl]) _
   clear hH3;have hb3:=hb'.go hx3 hw3;have hD2:=hb'.wf.lt hb'.get;have hlt3:=hw3.lt hg3;refine(Qz8 hb3 ((i:Int)==0) [32] [44,32] (by simp only[Lh,Lo,L9];omega)).thenW ?_;rintro _ H4 hn4 hw4 ⟨rfl,p4,v4,hb4,hst4⟩;have hg4:H4.get H2.next=some (.cells a.cells Qh false):=by
    rw[hst4.keep H2.next hlt3 (by omega) (λhi=>by have:=QrN hb' hi;omega)];exact hg3
   have hsp:(bif ((i:Int)==0) then[32] else[44,32])=QeX i:=by
    unfold QeX;cases i with
    | zero=>rfl
    | succ k=>rfl
   rw[hsp]at hb4;obtain⟨ac,eac⟩:∃ac,ac=a.cells:=⟨_,rfl⟩;have hacl:ac.take 11=ac:=by rw[eac];rfl
   rw[<- eac]at hg3 hg4;simp only[sxA,sxB,Nat.reduceBEq,Nat.reduceEqDiff,reduceCtorEq,mxA,mxB,Nat.reduceAdd,reduceIte,Nat.reduceLeDiff,splice,cgA,hg3,hg4,q9,q2,q47,q49,BN,Bz,Lw,hacl];have hbl:Qm H4.next 6 (Value.agg ac.toArray)=true:=by rw[eac];simp[Qm,Ab.plain,Ar.cells]
   refine⟨by rw[eac];exact Lb _,hbl,?_⟩;rw[eac];have hsl:(QeX i).length<=2:=by unfold QeX;split<;>simp
   refine(QoC hT hw0 hT0 hb4 hoka next (by rw[Lh,Lh];omega)).thenW ?_;rintro _ H5 hn5 hw5 ⟨rfl,p5,v5,hb5,hst5⟩;simp only[sxA,sxB,Nat.reduceBEq,Nat.reduceEqDiff,reduceCtorEq,q49,ei];refine⟨l.length - (i+1),by omega,i+1,p5,v5,by omega,rfl,?_,?_,?_,?_,?_,?_⟩
   ·rw[QoD ha,<- LQ,<- LQ];exact hb5
   all_goals simp only[uxA,uxB,Nat.reduceBEq,q9,q2,q47,q48]
  ·have h2:i=l.length:=by have:=Ll h2;omega
   subst h2;rw[Nr]at hb';have hg5:=hb'.get;simp only[sxA,sxB,Nat.reduceBEq,Nat.reduceEqDiff,reduceCtorEq,mxA,mxB,Nat.reduceAdd,reduceIte,Nat.reduceLeDiff,splice,q9,Jg,hg5];refine(QyC hb' (by rw[Lh];omega) (by rw[Lh];rw[Nr]at hal;omega)).thenW ?_;rintro _ H6 hn6 hw6 ⟨rfl,hx6⟩;subst er;simp only[sxA,sxB,Nat.reduceBEq,Nat.reduceEqDiff,reduceCtorEq,Qbe];have hx7:=hx0.trans hx6;exact .mk hx7.next ⟨rfl,hx7⟩
include hT in
theorem Qj4 (op:Int) (va:Value) (l:List Ar) (hv:Q0 H va l) (hl:l.length<=1000) (hI:∀a∈l,I64 a.n) (hint next:Int) (hTH:T H):Qg prog QaJ [.agg #[.int .i64 op,va],.int .i64 hint,.int .i64 next] H λu H'=>u=.tuple #[.string (mkS (GA op l hint next).1),.int .i64 (GA op l hint next).2]∧Ext H H':=by
 refine QpD λhw=>?_;obtain⟨r,er⟩:∃r,r=GA op l hint next:=⟨_,rfl⟩;rw[<- er];unfold GA at er;have hx1:=(Ext.refl H).push (.cells [.int .i64 op,va] Qc false);have hw1:=hw.push (.cells [.int .i64 op,va] Qc false);have hg1:(H.push (.cells [.int .i64 op,va] Qc false)).get H.next=some (.cells [.int .i64 op,va] Qc false):=by rw[Qd,Lc rfl]
 have hv1:Q0 (H.push (.cells [.int .i64 op,va] Qc false)) va l:=hv.ext hw hx1;have hio:=@QoB op l hI;obtain⟨c0,cap0,rfl⟩:=Q7 hv;simp only[QhT,sxA,sxB,Nat.reduceBEq,Nat.reduceEqDiff,reduceCtorEq,mxA,mxB,Nat.reduceAdd,reduceIte,Nat.reduceLeDiff,splice];generalize H.push _=H1 at *;refine(QaR op l H1 _ hv1 hl hI).thenW ?_;rintro _ H2 hn2 hw2 ⟨hx2,v',rfl,hv2,hfr⟩;have hg2:H2.get H.next=some (.cells [.int .i64 op,.slice c0 l.length cap0] Qc false):=by rw[hx2.get _ (hw1.lt hg1)];exact hg1
 have hx3:=hx1.trans hx2;generalize Qt op l=c at *;obtain⟨cop,cl,ce⟩:=c;obtain⟨c2,cap2,rfl⟩:=Q7 hv2;simp only at er hio;have hx4:∀c,Ext H (H2.set H.next c):=λc=>hx3.set (Lb _) c;cases h:ce==0 with
 | false=>
  rw[h,Le (by simp)]at er;subst er;simp only[sxA,sxB,Nat.reduceBEq,Nat.reduceEqDiff,reduceCtorEq,mxA,mxB,Nat.reduceAdd,reduceIte,Nat.reduceLeDiff,splice,hg2,h,LM,Qbe];exact .mk (hx4 _).next ⟨rfl,hx4 _⟩
 | true=>
  have he:ce=0:=by simpa using h
  obtain⟨rfl,hval,hl5,hok⟩:=hio he;rw[h,Lc rfl]at er;have hw4:=λc=>hw2.set hg2 c;have hlt2:¬H.next=H2.next:=by have:=hw2.lt hg2;omega
  simp only[he,sxA,sxB,Nat.reduceBEq,Nat.reduceEqDiff,reduceCtorEq,mxA,mxB,Nat.reduceAdd,reduceIte,Nat.reduceLeDiff,splice,hg2,hlt2,LN,LO,L8,Qfd];have hx5:=hx4 (.cells [.int .i64 cop,.slice c2 cl.length cap2] Qc false);have hw5:=hw4 (.cells [.int .i64 cop,.slice c2 cl.length cap2] Qc false);have hg5:(H2.set H.next (.cells [.int .i64 cop,.slice c2 cl.length cap2] Qc false)).get H.next=some (.cells [.int .i64 cop,.slice c2 cl.length cap2] Qc false):=by rw[Qn,Lc rfl]
  have hn5:(H2.set H.next (.cells [.int .i64 cop,.slice c2 cl.length cap2] Qc false)).next=H2.next:=QE ..;have hv5:Q0 (H2.set H.next (.cells [.int .i64 cop,.slice c2 cl.length cap2] Qc false)) (.slice c2 cl.length cap2) cl:=by
   obtain⟨a9,c9,e9,h9⟩:=hv2;refine⟨a9,c9,e9,λhp=>?_⟩;obtain⟨b,e,ro,e8,h8⟩:=h9 hp;refine⟨b,e,ro,e8,?_⟩;have hb:H1.next<=b:=by
    subst e8;exact(hfr _ _ _ e9).1
   have:=hw1.lt hg1;rw[Qn,Le (by omega)];exact h8
  generalize H2.set H.next _=H4 at *;have hb:=QCj H4 hw5;rw[hn5]at hb;have hT4:T H4:=hT.q.ext H H4 hw hTH hx5;have hnl:=QCk cop;have hnn:=QEg hval;have hend:∀ (w:List UInt8) (A:Env) (H':Qa) (p' v':Value),0<=hint∧hint<=3->w=nmF cop++QqV hint->BAt H4 H' H2.next w p' v'->A 9=.pointer (some ⟨H2.next,0,none⟩)->A 3=.pointer (some ⟨H.next,0,none⟩)->A 2=.int .i64 next->Qs prog Jy ⟨KTx H r,YO⟩ (KTx H r) A H':=by
   intro w A H' p' v' hh ew hb' r9 r3 r2;rw[Lc hh]at er;subst er;rw[<- ew];have hhl:(QqV hint).length<=7:=by unfold QqV;repeat' (split<;>try decide)
   exact QCl hT hw5 hT4 hx5 hg5 hv5 hl5 hok hb' ⟨by rw[ew,Lh];omega,by rw[ew,Lh];omega⟩ r9 r3 r2 YO
  refine(QtL cop _).thenW ?_;rintro _ H6 hn6 hw6 ⟨rfl,hx6⟩;have hb6:=hb.go hx6 hw6;simp only[sxA,sxB,Nat.reduceBEq,Nat.reduceEqDiff,reduceCtorEq,mxA,mxB,Nat.reduceAdd,reduceIte,Nat.reduceLeDiff,splice,syA];refine(JP hb6 [nmF cop] 1 rfl (by rw[Gz];simp;omega) (by simp)).thenW ?_;rintro _ H7 hn7 hw7 ⟨rfl,p7,v7,hb7,hst7⟩;rw[Gz,LH]at hb7;simp only[sxA,sxB,Nat.reduceBEq,Nat.reduceEqDiff,reduceCtorEq];refine Qi (λq0=>?_) (λq0=>?_)
  ·have q0':hint=0:=by simpa using q0
   simp only[sxA,sxB,Nat.reduceBEq,Nat.reduceEqDiff,reduceCtorEq];refine hend (nmF cop) _ _ p7 v7 (by omega) (by rw[q0'];simp[QqV]) hb7 ?_ ?_ ?_
   all_goals simp only[uxA,uxB,Nat.reduceBEq]
  ·simp only[Qfc,sxA,sxB,Nat.reduceBEq,Nat.reduceEqDiff,reduceCtorEq,mxA,mxB,Nat.reduceAdd,reduceIte,Nat.reduceLeDiff,splice,syA];refine Qi (λq1=>?_) (λq1=>?_)
   ·have q':hint=1:=by simpa using q1
    simp only[sxA,sxB,Nat.reduceBEq,Nat.reduceEqDiff,reduceCtorEq,mxA,mxB,Nat.reduceAdd,reduceIte,Nat.reduceLeDiff,splice,syA];refine(JP hb7 [[32,115,104,111,114,116]] 1 rfl (by rw[Gz];simp only[Lo,L9];omega) (by simp)).thenW ?_;rintro _ H8 hn8 hw8 ⟨rfl,p8,v8,hb8,hst8⟩;rw[Gz]at hb8;simp only[sxA,sxB,Nat.reduceBEq,Nat.reduceEqDiff,reduceCtorEq];refine hend _ _ _ p8 v8 (by omega) (by rw[q'];rfl) hb8 ?_ ?_ ?_
    all_goals simp only[uxA,uxB,Nat.reduceBEq]
   ·simp only[Qfb,sxA,sxB,Nat.reduceBEq,Nat.reduceEqDiff,reduceCtorEq,mxA,mxB,Nat.reduceAdd,reduceIte,Nat.reduceLeDiff,splice,syA];refine Qi (λq2=>?_) (λq2=>?_)
    ·have q':hint=2:=by simpa using q2
     simp only[sxA,sxB,Nat.reduceBEq,Nat.reduceEqDiff,reduceCtorEq,mxA,mxB,Nat.reduceAdd,reduceIte,Nat.reduceLeDiff,splice,syA];refine(JP hb7 [[32,110,101,97,114]] 1 rfl (by rw[Gz];simp only[Lo,L9];omega) (by simp)).thenW ?_;rintro _ H8 hn8 hw8 ⟨rfl,p8,v8,hb8,hst8⟩;rw[Gz]at hb8;simp only[sxA,sxB,Nat.reduceBEq,Nat.reduceEqDiff,reduceCtorEq];refine hend _ _ _ p8 v8 (by omega) (by rw[q'];rfl) hb8 ?_ ?_ ?_
     all_goals simp only[uxA,uxB,Nat.reduceBEq]
    ·simp only[Qfa,sxA,sxB,Nat.reduceBEq,Nat.reduceEqDiff,reduceCtorEq,mxA,mxB,Nat.reduceAdd,reduceIte,Nat.reduceLeDiff,splice,syA];refine Qi (λq3=>?_) (λq3=>?_)
     ·have q':hint=3:=by simpa using q3
      simp only[sxA,sxB,Nat.reduceBEq,Nat.reduceEqDiff,reduceCtorEq,mxA,mxB,Nat.reduceAdd,reduceIte,Nat.reduceLeDiff,splice,syA];refine(JP hb7 [[32,115,116,114,105,99,116]] 1 rfl (by rw[Gz];simp only[Lo,L9];omega) (by simp)).thenW ?_;rintro _ H8 hn8 hw8 ⟨rfl,p8,v8,hb8,hst8⟩;rw[Gz]at hb8;simp only[sxA,sxB,Nat.reduceBEq,Nat.reduceEqDiff,reduceCtorEq];refine hend _ _ _ p8 v8 (by omega) (by rw[q'];rfl) hb8 ?_ ?_ ?_
      all_goals simp only[uxA,uxB,Nat.reduceBEq]
     ·have hno:¬ (0<=hint∧hint<=3):=by
       simp only[LC]at q0 q1 q2 q3;omega
      rw[Le hno]at er;subst er;simp only[sxA,sxB,Nat.reduceBEq,Nat.reduceEqDiff,reduceCtorEq,Qbe];have hx9:=hx5.trans hb7.ext;exact .mk hx9.next ⟨rfl,hx9⟩
end
end Go.Proofs.YtiepokkmhhginaaGreatDoor.code
