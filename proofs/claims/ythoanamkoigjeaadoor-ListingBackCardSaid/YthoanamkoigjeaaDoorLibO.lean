/- Closed runs of functions of numbers and texts, as contracts over any heap. -/
import Derived.Test.YthoanamkoigjeaaDoorC0Code
import Derived.Test.YthoanamkoigjeaaDoorAbD
import Derived.Test.YthoanamkoigjeaaDoorAbC
import Derived.Laws.BitsLemmas
import Derived.Laws.Bits64
import Derived.Test.YthoanamkoigjeaaDoorC7Asm
set_option linter.unusedVariables false
set_option maxRecDepth 100000
set_option linter.unusedSimpArgs false
set_option maxHeartbeats 4000000
noncomputable section
namespace Go.Proofs.YthoanamkoigjeaaDoor.code
open Go.Ab
def Qkv:FuncId→Option Xk:=fun f=>bif Nat.beq f Qx then some .indexByte else bif Nat.beq f QK then some .count else bif Nat.beq f Wo then some .noEscape else bif Nat.beq f W6 then some .add64 else none
theorem Qbh:Qc5 prog Qx .indexByte:=⟨_,rfl,by kernel_rfl,by kernel_rfl,by kernel_rfl,by kernel_rfl⟩
theorem QfR:Qc5 prog QK .count:=⟨_,rfl,by kernel_rfl,by kernel_rfl,by kernel_rfl,by kernel_rfl⟩
theorem Qca:Qc5 prog Wo .noEscape:=⟨_,rfl,by kernel_rfl,by kernel_rfl,by kernel_rfl,by kernel_rfl⟩
theorem QfS:Qc5 prog W6 .add64:=⟨_,rfl,by kernel_rfl,by kernel_rfl,by kernel_rfl,by kernel_rfl⟩
theorem Qjz:∀f k,Qkv f=some k→Qc5 prog f k:=by
 intro f k h
 unfold Qkv at h
 cases b1:Nat.beq f Qx with
 | true=>rw[b1]at h;cases h;rw[Nat.eq_of_beq_eq_true b1];exact Qbh
 | false=>
  rw[b1,cond_false]at h
  cases b2:Nat.beq f QK with
  | true=>rw[b2]at h;cases h;rw[Nat.eq_of_beq_eq_true b2];exact QfR
  | false=>
   rw[b2,cond_false]at h
   cases b3:Nat.beq f Wo with
   | true=>rw[b3]at h;cases h;rw[Nat.eq_of_beq_eq_true b3];exact Qca
   | false=>
    rw[b3,cond_false]at h
    cases b4:Nat.beq f W6 with
    | true=>rw[b4]at h;cases h;rw[Nat.eq_of_beq_eq_true b4];exact QfS
    | false=>rw[b4]at h;cases h
def isV (u:Value):Option (Value×Qa)→Bool
 | some (v,_)=>QaZ 6 u v
 | none=>false
def QjA (f:FuncId) (args:List Value) (u:Value):Bool:=isV u ((run prog (Qcu Qkv) 200 5 12).fn f args (H0 prog))
theorem Vt {f:FuncId} {args:List Value} {u:Value} (he:Qv prog f=true) (ha:args.all Ab.plain=true) (hu:Ab.plain u=true) (h:QjA f args u=true) (H:Qa):Qf prog f args H fun v H'=>v=u∧H'=H:=by
 unfold QjA isV at h
 split at h
 ·rename_i v H1 hr
  have hd:=((QfD (QfE Qjz) 12).fn f args _ _ H1 hr).does he
  have e:u=v:=QaS 6 _ _ h
  subst e
  exact Qbf he (QlP hd ha hu H)
 ·cases h
def I64 (n:Int):Prop:=-9223372036854775808≤n∧n≤9223372036854775807
theorem w64 {n:Int} (h:I64 n):IntKind.i64.wrap n=n:=by
 rw[IntKind.wrap_i64];unfold I64 at h;omega
def YD (H:Qa) (v:Value) (n:Nat) (cs:List Value):Prop:=∃a cap,v=.slice a n cap∧(0<n→∃b e ro,a=some ⟨b,0,none⟩∧H.get b=some (.cells cs e ro))
theorem YD.ext {H H':Qa} {v:Value} {n:Nat} {cs:List Value} (hw:H.Wf) (he:Ext H H') (h:YD H v n cs):YD H' v n cs:=by
 obtain⟨a,cap,rfl,h1⟩:=h
 refine⟨a,cap,rfl,fun hn=>?_⟩
 obtain⟨b,e,ro,rfl,hb⟩:=h1 hn
 exact⟨b,e,ro,rfl,by rw[he.get b (hw.lt hb)];exact hb⟩
def YE (c:Nat):Nat:=bif Nat.ble 48 c&&Nat.ble c 57 then c - 48 else bif Nat.ble 97 c&&Nat.ble c 122 then c - 87 else bif Nat.ble 65 c&&Nat.ble c 90 then c - 55 else 99
def Jy (c:Nat):Bool:=Nat.beq c 95||Nat.blt (YE c) 99
def Xh (c:Nat):Nat:=bif Nat.ble 48 c&&Nat.ble c 57 then c - 48 else bif Nat.ble 97 c&&Nat.ble c 102 then c - 87 else 16
def Qnn (f:FuncId) (g:Nat→Value):Bool:=(List.range 256).all fun c=>QjA f [.int .u8 c] (g c)
theorem QbF {f:FuncId} {g:Nat→Value} (he:Qv prog f=true) (hg:((List.range 256).all fun c=>Ab.plain (g c))=true) (h:Qnn f g=true) (c:Nat) (hc:c<256) (H:Qa):Qf prog f [.int .u8 (c:Int)] H fun u H'=>u=g c∧H'=H:=
 Vt he rfl (List.all_eq_true.1 hg c (List.mem_range.2 hc)) (List.all_eq_true.1 h c (List.mem_range.2 hc)) H
def Qno (c:Nat):Value:=bif Nat.blt (YE c) 16 then .int .i64 (YE c) else .int .i64 (-1)
theorem Qdz (c:Nat) (hc:c<256) (H:Qa):Qf prog Ke [.int .u8 (c:Int)] H fun u H'=>u=Qno c∧H'=H:=
 QbF (g:=Qno) (by kernel_rfl) (by kernel_rfl) (by kernel_rfl) c hc H
theorem QcI (c:Nat) (hc:c<256) (H:Qa):Qf prog Vh [.int .u8 (c:Int)] H fun u H'=>u=.bool (Jy c)∧H'=H:=
 QbF (g:=fun c=>.bool (Jy c)) (by kernel_rfl) (by kernel_rfl) (by kernel_rfl) c hc H
def Zt (c:Nat):Nat:=bif Nat.beq (Xh c) 16 then 0 else Xh c
theorem V1 (c:Nat) (hc:c<256) (H:Qa):Qf prog Kd [.int .u8 (c:Int)] H fun u H'=>u=.int .i64 (Zt c)∧H'=H:=
 QbF (g:=fun c=>.int .i64 (Zt c)) (by kernel_rfl) (by kernel_rfl) (by kernel_rfl) c hc H
theorem QiX {n:Int} (h0:0≤n) (h1:n<18446744073709551616):IntKind.u64.wrap n=n:=by rw[IntKind.wrap_u64];omega
def Qs (d:Nat):UInt8:=(if d<10 then 48+d else 87+d).toUInt8
def dgs (b u:Nat):List UInt8:=if h:u<b∨b<2 then[Qs u] else dgs b (u / b)++[Qs (u % b)]
termination_by u
decreasing_by exact Nat.div_lt_self (by omega) (by omega)
theorem Gg {b u:Nat} (h:u<b):dgs b u=[Qs u]:=by rw[dgs,dif_pos (.inl h)]
theorem QaD {b u:Nat} (h:b≤u) (hb:2≤b):dgs b u=dgs b (u / b)++[Qs (u % b)]:=by rw[dgs,dif_neg (by omega)]
theorem QgI (b u:Nat):dgs b u≠[]:=by
 rw[dgs]
 split<;>simp
def GQ (n:Int) (b:Nat) (ahead:List UInt8):List UInt8:=(if n<0 then[45] else[])++ahead++dgs b n.natAbs
def Yn (n:Int):List UInt8:=GQ n 16 [48,120]
def Z7 (n:Int):List UInt8:=GQ n 10 []
def u8v (l:List UInt8):List Value:=l.map fun b=>.int .u8 (b.toNat:Int)
theorem VM (l:List UInt8):(u8v l).length=l.length:=by simp[u8v]
theorem Qnp (b:UInt8):(b.toNat:Int).toNat.toUInt8=b:=by simp
theorem ZD:∀l:List UInt8,YJ (u8v l)=some l
 | []=>rfl
 | b::l=>by
  show(YJ (u8v l)).map ((b.toNat:Int).toNat.toUInt8::·)=_
  rw[ZD l,Qnp];rfl
theorem Qnq (l:List UInt8):(u8v l).all (·.oneCell')=true:=by
 rw[List.all_eq_true]
 intro v hv
 obtain⟨b,_,rfl⟩:=List.mem_map.1 hv
 rfl
theorem J4 {c l:List Value} {i:Nat} {v:Value} (hi:i<c.length) (hd:c.drop (i+1)=l):(splice c i [v]).drop i=v::l:=by
 unfold splice
 rw[List.drop_append_of_le_length (by simp;omega),List.drop_eq_nil_of_le (by simp;omega)]
 simp[hd]
theorem QnN:∀d,d<36→([48,49,50,51,52,53,54,55,56,57,97,98,99,100,101,102,103,104,105,106,107,108,109,110,111,112,113,114,115,116,117,118,119,120,121,122]:List UInt8)[d]? = some (Qs d):=by decide
theorem Qo5 {u:Nat} (h:u<18446744073709551616):IntKind.u64.wrap ((BitVec.ofInt IntKind.u64.bits (u:Int) &&& BitVec.ofInt IntKind.u64.bits 15).toNat)=((u % 16:Nat):Int):=by
 have e:(BitVec.ofInt IntKind.u64.bits (u:Int) &&& BitVec.ofInt IntKind.u64.bits 15).toNat=u % 16:=by
  have hb:IntKind.u64.bits=64:=rfl
  rw[BitVec.toNat_and,BitVec.toNat_ofInt,BitVec.toNat_ofInt,hb]
  have h1:((u:Int) % ((2 ^ 64:Nat):Int)).toNat=u:=by omega
  have h2:((15:Int) % ((2 ^ 64:Nat):Int)).toNat=2 ^ 4 - 1:=rfl
  rw[h1,h2,Nat.and_two_pow_sub_one_eq_mod]
 rw[e,QiX (by omega) (by omega)]
theorem Qpg (u:Nat):(u:Int).fdiv (2 ^ (min (4:Int).toNat IntKind.u64.bits))=((u / 16:Nat):Int):=by
 have e:(2:Int) ^ (min (4:Int).toNat IntKind.u64.bits)=16:=rfl
 rw[e,Int.fdiv_eq_ediv_of_nonneg _ (by decide)]
 rfl
structure Tq (T:Qa→Prop):Prop where
 ext:∀H H',H.Wf→T H→Ext H H'→T H'
 tz:∀H,T H→Qf prog WX [.int .u64 16] H fun u H'=>u=.int .i64 4∧H'=H
theorem Qnr (H:Qa):Qf prog Xo [.int .i64 16] H fun u H'=>u=.bool true∧H'=H:=
 Vt (by kernel_rfl) rfl rfl (by kernel_rfl) H
theorem QgJ {T:Qa→Prop} (hT:Tq T) (u0:Nat) (hu:u0<18446744073709551616) (H:Qa) (hTH:T H):
  Qf prog QO [.slice none 0 0,.int .u64 (u0:Int),.int .i64 16,.bool false,.bool false] H fun v H'=>v=.tuple #[.slice none 0 0,.string (mkS (dgs 16 u0))]∧Ext H H':=by
 refine JL fun hw=>?_
 have e1:decide ((16:Int)<2)=false:=rfl
 have e2:((16:Int)==10)=false:=rfl
 have e3:decide ((36:Int)<16)=false:=rfl
 simp only[XH,WP,Xd,sxA,sxB,Nat.reduceBEq,Nat.reduceEqDiff,reduceCtorEq,mxA,mxB,Nat.reduceAdd,reduceIte,Nat.reduceLeDiff,splice,e1,e2,e3]
 generalize hz:([.int .u8 0,.int .u8 0,.int .u8 0,.int .u8 0,.int .u8 0,.int .u8 0,.int .u8 0,.int .u8 0,.int .u8 0,.int .u8 0,.int .u8 0,.int .u8 0,.int .u8 0,.int .u8 0,.int .u8 0,.int .u8 0,.int .u8 0,.int .u8 0,.int .u8 0,.int .u8 0,.int .u8 0,.int .u8 0,.int .u8 0,.int .u8 0,.int .u8 0,.int .u8 0,.int .u8 0,.int .u8 0,.int .u8 0,.int .u8 0,.int .u8 0,.int .u8 0,.int .u8 0,.int .u8 0,.int .u8 0,.int .u8 0,.int .u8 0,.int .u8 0,.int .u8 0,.int .u8 0,.int .u8 0,.int .u8 0,.int .u8 0,.int .u8 0,.int .u8 0,.int .u8 0,.int .u8 0,.int .u8 0,.int .u8 0,.int .u8 0,.int .u8 0,.int .u8 0,.int .u8 0,.int .u8 0,.int .u8 0,.int .u8 0,.int .u8 0,.int .u8 0,.int .u8 0,.int .u8 0,.int .u8 0,.int .u8 0,.int .u8 0,.int .u8 0,.int .u8 0]:List Value)=c0
 have hc0:c0.length=65:=by rw[← hz];rfl
 clear hz
 refine(Qnr _).thenW ?_
 rintro _ H1 _ hw1 ⟨rfl,h1⟩
 obtain⟨e,h1⟩:∃e,H1=H.push (.cells c0 e false):=⟨_,h1⟩
 have hx1:Ext H H1:=by rw[h1];exact(Ext.refl H).push _
 have hg1:H1.get H.next=some (.cells c0 e false):=by rw[h1,Qa.get_push,if_pos rfl]
 have hn1:H1.next=H.next+1:=by rw[h1,Qa.next_push]
 clear h1
 simp only[Xc,sxA,sxB,Nat.reduceBEq,Nat.reduceEqDiff,reduceCtorEq,mxA,mxB,Nat.reduceAdd,reduceIte,Nat.reduceLeDiff,splice,show IntKind.u64.wrap 16=16 from rfl,show IntKind.u64.wrap (16 - 1)=15 from rfl]
 refine(hT.tz _ (hT.ext _ _ hw hTH hx1)).thenW ?_
 rintro _ H2 _ hw2 ⟨rfl,rfl⟩
 simp only[sxA,sxB,Nat.reduceBEq,Nat.reduceEqDiff,reduceCtorEq,mxA,mxB,Nat.reduceAdd,reduceIte,Nat.reduceLeDiff,splice,show IntKind.u64.wrap 4=4 from rfl]
 refine QC (fun m A' H'=>∃ (u:Nat) (suf:List UInt8) (c:List Value),u=m∧u<18446744073709551616∧u * 16 ^ suf.length<18446744073709551616∧Ext H H'∧H'.next=H.next+1∧H'.Wf∧H'.get H.next=some (.cells c e false)∧c.length=65∧(0<u∨suf=[])∧c.drop (65 - suf.length)=u8v suf∧dgs 16 u++suf=dgs 16 u0∧A' 1=.int .u64 (u:Int)∧A' 3=.bool false∧A' 4=.bool false∧A' 12=.pointer (some ⟨H.next,0,none⟩)∧A' 13=.int .i64 ((65 - suf.length:Nat):Int)∧A' 10=.slice none 0 0∧A' 14=.int .u64 4∧A' 15=.int .u64 16∧A' 16=.int .u64 15) u0 ?_ ?_
 ·refine⟨u0,[],c0,rfl,hu,by simpa using hu,hx1,hn1,hw2,hg1,hc0,.inr rfl,by simp[hc0,u8v],by simp,?_,?_,?_,?_,?_,?_,?_,?_,?_⟩
  all_goals simp only[uxA,uxB,Nat.reduceBEq]
  all_goals rfl
 ·rintro m A' H' ⟨u,suf,c,rfl,hu1,hp,hx,hn,hw',hg,hcl,hs,hcd,hd,r1,r3,r4,r12,r13,r10,r14,r15,r16⟩
  have hs15:suf.length≤15:=by
   rcases hs with h | h
   ·rcases Nat.lt_or_ge suf.length 16 with h1 | h1
    ·omega
    ·have h2:16 ^ 16≤16 ^ suf.length:=Nat.pow_le_pow_right (by decide) h1
     have h3:16 ^ suf.length≤u * 16 ^ suf.length:=Nat.le_mul_of_pos_left _ h
     omega
   ·rw[h];simp
  have ei:IntKind.i64.wrap (((65 - suf.length:Nat):Int) - 1)=((65 - (suf.length+1):Nat):Int):=by rw[w64 (by unfold I64;omega)];omega
  have hi:65 - (suf.length+1)<c.length:=by omega
  have hd1:c.drop (65 - (suf.length+1)+1)=u8v suf:=by rw[show 65 - (suf.length+1)+1=65 - suf.length by omega];exact hcd
  have wr:∀b:UInt8,(splice c (65 - (suf.length+1)) [.int .u8 (b.toNat:Int)]).drop (65 - (suf.length+1))=u8v (b::suf):=fun b=>J4 hi hd1
  have wl:∀v:Value,(splice c (65 - (suf.length+1)) [v]).length=65:=fun v=>by rw[Wz (by simp;omega)];exact hcl
  have hle:65 - (suf.length+1)+1≤c.length:=by omega
  have hset:∀c',Ext H (H'.set H.next (.cells c' e false)):=fun c'=>hx.set (Nat.le_refl _) _
  generalize hio:65 - (suf.length+1)=io at *
  by_cases h16:16≤u
  ·have e4:decide ((16:Int)≤(u:Int))=true:=decide_eq_true (by omega)
   have hm:u % 16<36:=by omega
   have t1:((u % 16:Nat):Int).toNat=u % 16:=Int.toNat_natCast _
   have t2:(0:Int)≤((u % 16:Nat):Int):=Int.natCast_nonneg _
   have t3:(0:Int)≤4:=by decide
   simp only[Q8,Xb,sxA,sxB,Nat.reduceBEq,Nat.reduceEqDiff,reduceCtorEq,mxA,mxB,Nat.reduceAdd,reduceIte,Nat.reduceLeDiff,splice,r1,r3,r4,r12,r13,r10,r14,r15,r16,e4,ei,Qo5 hu1,Qk,Qg,t1,t2,QnN _ hm]
   rw[QcG (n:=65) (size:=1) (b:=H.next) (o:=0) (i:=io) (ik:=.i64) (by kernel_rfl) (by simp only[uxA,uxB,Nat.reduceBEq,r12]) (by simp only[uxA,uxB,Nat.reduceBEq]) (by omega)]
   simp only[sxA,sxB,Nat.reduceBEq,Nat.reduceEqDiff,reduceCtorEq,mxA,mxB,Nat.reduceAdd,reduceIte,Nat.reduceLeDiff,hg,r1,r14,Qpg,t3,hle]
   refine⟨u / 16,by omega,u / 16,Qs (u % 16)::suf,splice c io [.int .u8 ((Qs (u % 16)).toNat:Int)],rfl,by omega,?_,hset _,hn,hw'.set hg _,by rw[Qa.get_set,if_pos rfl],wl _,.inl (by omega),?_,?_,?_,?_,?_,?_,?_,?_,?_,?_,?_⟩
   ·rw[List.length_cons,Nat.pow_succ]
    have h1:u / 16 * 16≤u:=Nat.div_mul_le_self u 16
    have h2:u / 16 * 16 * 16 ^ suf.length≤u * 16 ^ suf.length:=Nat.mul_le_mul_right _ h1
    have h3:u / 16 * (16 ^ suf.length * 16)=u / 16 * 16 * 16 ^ suf.length:=by rw[Nat.mul_comm (16 ^ suf.length) 16,Nat.mul_assoc]
    omega
   ·rw[List.length_cons,hio];exact wr _
   ·rw[← hd,QaD (u:=u) h16 (by decide),List.append_assoc];rfl
   all_goals simp only[uxA,uxB,Nat.reduceBEq,r1,r3,r4,r12,r13,r10,r14,r15,r16]
   rw[List.length_cons,hio]
  ·have e4:decide ((16:Int)≤(u:Int))=false:=decide_eq_false (by omega)
   have t1:(u:Int).toNat=u:=Int.toNat_natCast _
   have t2:(0:Int)≤(u:Int):=Int.natCast_nonneg _
   simp only[Q8,sxA,sxB,Nat.reduceBEq,Nat.reduceEqDiff,reduceCtorEq,mxA,mxB,Nat.reduceAdd,reduceIte,Nat.reduceLeDiff,splice,r1,r3,r4,r12,r13,r10,r14,r15,r16,e4,ei,Qk,Qg,t1,t2,QnN u (by omega)]
   rw[QcG (n:=65) (size:=1) (b:=H.next) (o:=0) (i:=io) (ik:=.i64) (by kernel_rfl) (by simp only[uxA,uxB,Nat.reduceBEq,r12]) (by simp only[uxA,uxB,Nat.reduceBEq]) (by omega)]
   simp only[sxA,sxB,Nat.reduceBEq,Nat.reduceEqDiff,reduceCtorEq,mxA,mxB,Nat.reduceAdd,reduceIte,Nat.reduceLeDiff,hg,r3,hle,Xa,W9,r4]
   rw[QcH (n:=65) (size:=1) (b:=H.next) (o:=0) (l:=io) (h:=65) (by kernel_rfl) (by simp only[uxA,uxB,Nat.reduceBEq,r12]) (.inl (by simp only[Qp,uxA,uxB,Nat.reduceBEq])) (.inr ⟨rfl,rfl⟩) (by omega) (by omega) (by unfold UNK;decide)]
   simp only[sxA,sxB,Nat.reduceBEq,Nat.reduceEqDiff,reduceCtorEq]
   have hfin:u8v (Qs u::suf)=u8v (dgs 16 u0):=by rw[← hd,Gg (by omega)];rfl
   rw[QaU (n:=65 - io) (c:=65 - io) (a:=some ⟨H.next,0+io * 1,none⟩) (vs:=u8v (dgs 16 u0)) (bs:=dgs 16 u0) (by kernel_rfl) (by simp only[uxA,uxB,Nat.reduceBEq]) (by
    simp only[Wp]
    rw[if_neg (by omega),Qa.get_set,if_pos rfl]
    simp only[]
    rw[if_pos (by rw[wl];omega)]
    simp only[Nat.zero_add,Nat.mul_one]
    rw[wr,hfin,List.take_of_length_le]
    rw[← hfin,VM,List.length_cons];omega) (ZD _)]
   simp only[sxA,sxB,Nat.reduceBEq,Nat.reduceEqDiff,reduceCtorEq,Jb,r10]
   exact .mk (by rw[Qa.next_set];omega) ⟨rfl,hset _⟩
theorem QaE {T:Qa→Prop} (hT:Tq T) (u:Nat) (hu:u<18446744073709551616) (H:Qa) (hTH:T H):Qf prog W5 [.int .u64 (u:Int),.int .i64 16] H fun v H'=>v=.string (mkS (dgs 16 u))∧Ext H H':=by
 refine V9 fun hw=>?_
 simp only[Jr,sxA,sxB,Nat.reduceBEq,Nat.reduceEqDiff,reduceCtorEq,mxA,mxB,Nat.reduceAdd,reduceIte,Nat.reduceLeDiff,splice]
 have h2:Qf prog Wm [.int .u64 (u:Int),.int .i64 16] H fun v H'=>v=.string (mkS (dgs 16 u))∧Ext H H':=by
  refine JI fun hw=>?_
  have e2:((16:Int)==10)=false:=rfl
  simp only[XG,sxA,sxB,Nat.reduceBEq,Nat.reduceEqDiff,reduceCtorEq,mxA,mxB,Nat.reduceAdd,reduceIte,Nat.reduceLeDiff,splice,e2]
  refine(QgJ hT u hu H hTH).thenW ?_
  rintro _ H1 _ hw1 ⟨rfl,hx⟩
  simp only[sxA,sxB,Nat.reduceBEq,Nat.reduceEqDiff,reduceCtorEq,mxA,mxB,Nat.reduceAdd,reduceIte,Nat.reduceLeDiff,splice,Ja]
  exact .mk hx.next ⟨rfl,hx⟩
 refine h2.thenW ?_
 rintro _ H1 _ hw1 ⟨rfl,hx⟩
 simp only[sxA,sxB,Nat.reduceBEq,Nat.reduceEqDiff,reduceCtorEq,mxA,mxB,Nat.reduceAdd,reduceIte,Nat.reduceLeDiff,splice,VJ]
 exact .mk hx.next ⟨rfl,hx⟩
theorem QcJ:∀ (n u:Nat),u<16 ^ (n+1)→(dgs 16 u).length≤n+1
 | 0,u,h=>by rw[Gg (by omega)];simp
 | n+1,u,h=>by
  by_cases h16:16≤u
  ·rw[QaD h16 (by decide),List.length_append]
   have:=QcJ n (u / 16) (by rw[Nat.pow_succ]at h;omega)
   simp only[List.length_cons,List.length_nil]
   omega
  ·rw[Gg (by omega)];simp
theorem G3 {T:Qa→Prop} (hT:Tq T) (n:Int) (hn:I64 n) (H:Qa) (hTH:T H):Qf prog YZ [.int .i64 n] H fun v H'=>v=.string (mkS (Yn n))∧Ext H H':=by
 refine Qeq fun hw=>?_
 have hnat:n.natAbs<18446744073709551616:=by unfold I64 at hn;omega
 have hlen:(dgs 16 n.natAbs).length≤16:=QcJ 15 _ hnat
 unfold I64 at hn
 by_cases h:n<0
 ·have eu:IntKind.u64.wrap (-(IntKind.u64.wrap n))=(n.natAbs:Int):=by rw[IntKind.wrap_u64,IntKind.wrap_u64];omega
  simp only[K8,sxA,sxB,Nat.reduceBEq,Nat.reduceEqDiff,reduceCtorEq,mxA,mxB,Nat.reduceAdd,reduceIte,Nat.reduceLeDiff,splice,decide_eq_true h]
  rw[Qhz (ik:=.u64) (n:=IntKind.u64.wrap n) (by simp only[uxA,uxB,Nat.reduceBEq])]
  simp only[sxA,sxB,Nat.reduceBEq,Nat.reduceEqDiff,reduceCtorEq,mxA,mxB,Nat.reduceAdd,reduceIte,Nat.reduceLeDiff,splice,eu]
  refine(QaE hT _ hnat H hTH).thenW ?_
  rintro _ H1 _ hw1 ⟨rfl,hx⟩
  simp only[sxA,sxB,Nat.reduceBEq,Nat.reduceEqDiff,reduceCtorEq,mxA,mxB,Nat.reduceAdd,reduceIte,Nat.reduceLeDiff,splice,syA,VW]
  exact⟨by omega,.mk hx.next ⟨by simp[Yn,GQ,h],hx⟩⟩
 ·have eu:IntKind.u64.wrap n=(n.natAbs:Int):=by rw[IntKind.wrap_u64];omega
  simp only[K8,sxA,sxB,Nat.reduceBEq,Nat.reduceEqDiff,reduceCtorEq,mxA,mxB,Nat.reduceAdd,reduceIte,Nat.reduceLeDiff,splice,decide_eq_false h,eu]
  refine(QaE hT _ hnat H hTH).thenW ?_
  rintro _ H1 _ hw1 ⟨rfl,hx⟩
  simp only[sxA,sxB,Nat.reduceBEq,Nat.reduceEqDiff,reduceCtorEq,mxA,mxB,Nat.reduceAdd,reduceIte,Nat.reduceLeDiff,splice,syA,VW]
  exact⟨by omega,.mk hx.next ⟨by simp[Yn,GQ,h],hx⟩⟩
def G4 (w:List UInt8) (c d:UInt8):Bool:=match w with
 | a::b::_::_=>a==48&&(b==c||b==d)
 | _=>false
def Wh (w:List UInt8):Nat×Nat×Nat:=
 bif G4 w 120 88 then(16,2,w.length) else bif w.getLast? == some 104||w.getLast? == some 72 then(16,0,w.length - 1) else bif G4 w 98 66 then(2,2,w.length) else bif G4 w 111 79 then(8,2,w.length) else(10,0,w.length)
def ZE (of:Nat):List UInt8→Bool→Nat→Nat→Nat ⊕ Nat
 | [],_,_,acc=>.inr acc
 | c::l,prev,pos,acc=>bif c==95 then(bif prev||l.isEmpty then .inl pos else ZE of l true (pos+1) acc) else bif Nat.blt (YE c.toNat) of then ZE of l false (pos+1) (acc * of+YE c.toNat) else .inl pos
def QeA (w:List UInt8):Nat×Nat ⊕ Nat:=
 let b:=Wh w
 let d:=(w.take b.2.2).drop b.2.1
 match ZE b.1 d true b.2.1 0 with
 | .inl p=>.inl (4,p)
 | .inr acc=>bif d.isEmpty then .inl (4,b.2.2) else bif Nat.ble 18446744073709551616 acc then .inl (5,0) else .inr acc
def Qoy (e a:Int):Value:=.agg [.int .i64 e,.int .i64 a].toArray
theorem QiY (a:UInt8) (b:Nat) (hb:b<256):((a.toNat:Int)==(b:Int))=(a==b.toUInt8):=by
 have hl:a.toNat<256:=a.toNat_lt
 rw[Bool.eq_iff_iff,beq_iff_eq,beq_iff_eq]
 constructor
 ·intro h
  have h:a.toNat=b:=by omega
  rw[← h];simp
 ·intro h
  rw[h]
  have:b.toUInt8.toNat=b:=by simp;omega
  omega
theorem QlV {w:List UInt8} (h0:w≠[]):(Wh w).2.1≤(Wh w).2.2∧(Wh w).2.2≤w.length∧((Wh w).1=2∨(Wh w).1=8∨(Wh w).1=10∨(Wh w).1=16):=by
 have hlen:0<w.length:=List.length_pos_iff.2 h0
 have hb:∀c d,G4 w c d=true→2<w.length:=fun c d h=>by
  unfold G4 at h
  split at h
  ·simp
  ·cases h
 unfold Wh
 cases h1:G4 w 120 88 with
 | true=>have:=hb _ _ h1;simp;omega
 | false=>
  cases h2:(w.getLast? == some 104||w.getLast? == some 72) with
  | true=>simp
  | false=>
   cases h3:G4 w 98 66 with
   | true=>have:=hb _ _ h3;simp;omega
   | false=>
    cases h4:G4 w 111 79 with
    | true=>have:=hb _ _ h4;simp;omega
    | false=>simp
def G5 (c:Int):Bool:=(decide (97≤c)&&decide (c≤122))||(decide (65≤c)&&decide (c≤90))||(c==95)||(c==46)
def Jz (c:Int):Bool:=G5 c||(decide (48≤c)&&decide (c≤57))
theorem V3 (c:Int) (H:Qa):Qf prog Zd [.int .u8 c] H fun u H'=>u=.bool (G5 c)∧H'=H:=by
 refine QcA fun hw=>?_
 have e:G5 c=((decide (97≤c)&&decide (c≤122))||(decide (65≤c)&&decide (c≤90))||(c==95)||(c==46)):=rfl
 rw[e]
 simp only[Vk,sxA,sxB,mxA,mxB,splice,simprocAttr,GF]
 cases h1:decide (97≤c)<;>cases h2:decide (c≤122)<;>cases h3:decide (65≤c)<;>cases h4:decide (c≤90)<;>cases h5:c==95<;>cases h6:c==46<;>simp only[sxA,sxB,mxA,mxB,splice,simprocAttr,h1,h2,h3,h4,h5,h6,GF]<;>exact .mk (Nat.le_refl _) ⟨rfl,rfl⟩
theorem QeH (c:Int) (H:Qa):Qf prog KN [.int .u8 c] H fun u H'=>u=.bool (Jz c)∧H'=H:=by
 refine Qdv fun hw=>?_
 have e:Jz c=(G5 c||(decide (48≤c)&&decide (c≤57))):=rfl
 rw[e]
 simp only[VX,sxA,sxB,mxA,mxB,splice,simprocAttr]
 refine(V3 c H).thenW ?_
 rintro _ H _ hw ⟨rfl,rfl⟩
 simp only[sxA,sxB,mxA,mxB,splice,simprocAttr,Vl]
 cases h0:G5 c<;>cases h1:decide (48≤c)<;>cases h2:decide (c≤57)<;>simp only[sxA,sxB,mxA,mxB,splice,simprocAttr,h0,h1,h2,Vl]<;>exact .mk (Nat.le_refl _) ⟨rfl,rfl⟩
def V4:List UInt8→Bool
 | []=>false
 | b::l=>decide (l.length<60)&&G5 b.toNat&&l.all fun b=>Jz b.toNat
theorem QeI {c:Int} (h:G5 c=true):Jz c=true:=by unfold Jz;rw[h];rfl
theorem Ql7 {l:List UInt8} {i:Nat} {b:UInt8} (h:l[i]? = some b):((l.take (i+1)).all fun b=>Jz b.toNat)=(((l.take i).all fun b=>Jz b.toNat)&&Jz b.toNat):=by
 rw[List.take_add_one,h]
 simp
theorem Qnx {l:List UInt8} {i:Nat} {b:UInt8} (h:l[i]? = some b) (hb:Jz b.toNat=false):(l.all fun b=>Jz b.toNat)=false:=by
 cases ha:l.all fun b=>Jz b.toNat with
 | false=>rfl
 | true=>
  have:=List.all_eq_true.1 ha b (List.mem_of_getElem? h)
  rw[hb]at this
  cases this
theorem Qce (s:ByteArray) (hl:(bl s).length≤1000000) (H:Qa):Qf prog KD [.string s] H fun u H'=>u=.bool (V4 (bl s))∧H'=H:=by
 refine Qfc fun hw=>?_
 generalize hbl:bl s=l at *
 simp only[Qbg,VT,VU,VV,sxA,sxB,mxA,mxB,splice,simprocAttr,Qe,hbl]
 cases hc:l with
 | nil=>
  subst hc
  have z:(((0:Nat):Int)==0)=true:=rfl
  simp only[sxA,sxB,mxA,mxB,splice,simprocAttr,z,YB]
  exact .mk (Nat.le_refl _) ⟨rfl,rfl⟩
 | cons b0 l0=>
  rw[← hc]
  have hn:l.length=l0.length+1:=by rw[hc];rfl
  have z:((l.length:Int)==0)=false:=by rw[hn];exact beq_eq_false_iff_ne.2 (by omega)
  have h0:l[0]? = some b0:=by rw[hc];rfl
  have eN:V4 l=(decide (l0.length<60)&&G5 b0.toNat&&l0.all fun b=>Jz b.toNat):=by rw[hc];rfl
  rw[eN]
  simp only[sxA,sxB,mxA,mxB,splice,simprocAttr,Qe,Qk,hbl,z,h0]
  by_cases h60:(60:Int)<l.length
  ·have e60:decide ((60:Int)<l.length)=true:=decide_eq_true h60
   have e61:decide (l0.length<60)=false:=decide_eq_false (by omega)
   simp only[sxA,sxB,mxA,mxB,splice,simprocAttr,e60,YB]
   exact .mk (Nat.le_refl _) ⟨by rw[e61];rfl,rfl⟩
  ·have e60:decide ((60:Int)<l.length)=false:=decide_eq_false h60
   have e61:decide (l0.length<60)=true:=decide_eq_true (by omega)
   have t0:(0:Int)≤0:=Int.le_refl 0
   have t00:(0:Int).toNat=0:=rfl
   rw[e61,Bool.true_and]
   simp only[sxA,sxB,mxA,mxB,splice,simprocAttr,Qk,hbl,e60,t0,t00,h0,true_and]
   refine(V3 b0.toNat H).thenW ?_
   rintro _ H _ hw ⟨rfl,rfl⟩
   cases hf:G5 b0.toNat with
   | false=>
    simp only[sxA,sxB,mxA,mxB,splice,simprocAttr,YB]
    exact .mk (Nat.le_refl _) ⟨rfl,rfl⟩
   | true=>
    have hm0:=QeI hf
    have eA:(l0.all fun b=>Jz b.toNat)=l.all fun b=>Jz b.toNat:=by rw[hc,List.all_cons,hm0,Bool.true_and]
    rw[Bool.true_and,eA]
    simp only[sxA,sxB,mxA,mxB,splice,simprocAttr,Qe,hbl]
    refine QC (fun m A' H'=>∃i:Nat,i≤l.length∧m=l.length - i∧H'=H∧((l.take i).all fun b=>Jz b.toNat)=true∧A' 0=.string s∧A' 19=.int .i64 l.length∧A' 20=.int .i64 i) l.length ?_ ?_
    ·refine⟨0,Nat.zero_le _,by omega,rfl,rfl,?_,?_,?_⟩
     all_goals simp only[uxA,uxB,simprocAttr]
     all_goals rfl
    ·rintro m A' H' ⟨i,hi,rfl,hEq,hall,r0,r19,r20⟩
     subst hEq
     simp only[sxA,sxB,mxA,mxB,splice,simprocAttr,r19,r20]
     refine QlF (fun h2=>?_) (fun h2=>?_)
     ·have h2:i<l.length:=by have:=of_decide_eq_true h2;omega
      have hp:=List.getElem?_eq_getElem h2
      have c1:(0:Int)≤i:=by omega
      have c3:(i:Int).toNat=i:=by omega
      have ei:IntKind.i64.wrap ((i:Int)+1)=((i+1:Nat):Int):=by rw[w64 (by unfold I64;omega)];omega
      have ht:=Ql7 hp
      have hno:=Qnx hp
      generalize l[i]=b at *
      simp only[sxA,sxB,mxA,mxB,splice,simprocAttr,r0,r20,Qk,hbl,c1,c3,hp,true_and]
      refine(QeH b.toNat H').thenW ?_
      rintro _ H2 _ hw2 ⟨rfl,rfl⟩
      cases hmb:Jz b.toNat with
      | false=>
       simp only[sxA,sxB,mxA,mxB,splice,simprocAttr,YB]
       exact .mk (Nat.le_refl _) ⟨by rw[hno hmb],rfl⟩
      | true=>
       simp only[sxA,sxB,mxA,mxB,splice,simprocAttr,r20,ei]
       refine⟨l.length - (i+1),by omega,i+1,by omega,rfl,rfl,by rw[ht,hall,hmb];rfl,?_,?_,?_⟩
       all_goals simp only[uxA,uxB,simprocAttr,r0,r19]
     ·have h2:i=l.length:=by have:=of_decide_eq_false h2;omega
      subst h2
      rw[List.take_length]at hall
      simp only[sxA,sxB,mxA,mxB,splice,simprocAttr,YB]
      exact .mk (Nat.le_refl _) ⟨by rw[hall],rfl⟩
end Go.Proofs.YthoanamkoigjeaaDoor.code
