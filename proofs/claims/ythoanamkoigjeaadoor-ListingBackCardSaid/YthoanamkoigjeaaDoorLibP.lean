/- Literals: the document's. -/
import Derived.Test.YthoanamkoigjeaaDoorLibO
set_option linter.unusedVariables false
set_option linter.unusedSimpArgs false
set_option maxRecDepth 100000
set_option maxHeartbeats 4000000
noncomputable section
namespace Go.Proofs.YthoanamkoigjeaaDoor.code
open Go.Ab
structure Sc where
 n:Int
 e:Int
 err:Int
 at_:Int
def Sc.val (s:Sc):Value:=.tuple #[.int .i64 s.n,.int .i64 s.e,Qoy s.err s.at_]
def V2 (e:Int) (p:Nat):Sc:=⟨0,0,e,p⟩
def QaF:List UInt8→Nat→Nat→BitVec 64→Sc
 | [],pos,_,_=>V2 4 pos
 | c::l,pos,k,acc=>bif c==39 then(bif Nat.beq k 0 then V2 4 pos else⟨acc.toInt,((pos+1:Nat):Int),0,0⟩) else bif Nat.blt c.toNat 32||Nat.blt 126 c.toNat then V2 4 pos else bif Nat.beq k 8 then V2 3 pos else QaF l (pos+1) (k+1) (acc ||| BitVec.ofInt 64 ((c.toNat:Int) * 2 ^ (8 * k)))
def WR (s:List UInt8) (at_:Nat):Sc:=
 match s.drop at_ with
 | []=>V2 6 at_
 | c::r=>bif c==39 then QaF r (at_+1) 0 0 else bif Nat.blt 9 (YE c.toNat) then V2 6 at_ else
  let w:=(c::r).takeWhile fun b=>Jy b.toNat
  match QeA w with
  | .inl (e,p)=>⟨0,0,e,((p+at_:Nat):Int)⟩
  | .inr n=>⟨IntKind.i64.wrap n,((at_+w.length:Nat):Int),0,0⟩
theorem QeB (b:BitVec 64):IntKind.i64.wrap (b.toNat:Int)=b.toInt:=by
 rw[IntKind.wrap_i64,BitVec.toInt_eq_toNat_cond]
 have:=b.isLt
 split<;>omega
theorem Qkw {p:UInt8→Bool} {l:List UInt8} (h:∀c r,l=c::r→p c=false):l.takeWhile p=[]:=by
 cases l with
 | nil=>rfl
 | cons c r=>rw[List.takeWhile_cons,h c r rfl];rfl
theorem QeC {of p:Nat}:∀ (l:List UInt8) (prev:Bool) (pos acc:Nat),ZE of l prev pos acc=.inl p→p<pos+l.length
 | [],_,_,_,h=>by simp[ZE]at h
 | c::l,prev,pos,acc,h=>by
  rw[ZE]at h
  rw[List.length_cons]
  cases h1:c==95 with
  | true=>
   rw[h1,cond_true]at h
   cases h2:(prev||l.isEmpty) with
   | true=>rw[h2,cond_true]at h;cases h;omega
   | false=>rw[h2,cond_false]at h;have:=QeC l _ _ _ h;omega
  | false=>
   rw[h1,cond_false]at h
   cases h2:Nat.blt (YE c.toNat) of with
   | true=>rw[h2,cond_true]at h;have:=QeC l _ _ _ h;omega
   | false=>rw[h2,cond_false]at h;cases h;omega
theorem QlW {u:Nat} (h:u<18446744073709551616):IntKind.u64.wrap ((BitVec.ofInt IntKind.u64.bits (u:Int) &&& BitVec.ofInt IntKind.u64.bits 4294967295).toNat)=((u % 4294967296:Nat):Int):=by
 have e:(BitVec.ofInt IntKind.u64.bits (u:Int) &&& BitVec.ofInt IntKind.u64.bits 4294967295).toNat=u % 4294967296:=by
  have hb:IntKind.u64.bits=64:=rfl
  rw[BitVec.toNat_and,BitVec.toNat_ofInt,BitVec.toNat_ofInt,hb]
  have h1:((u:Int) % ((2 ^ 64:Nat):Int)).toNat=u:=by omega
  have h2:((4294967295:Int) % ((2 ^ 64:Nat):Int)).toNat=2 ^ 32 - 1:=rfl
  rw[h1,h2,Nat.and_two_pow_sub_one_eq_mod]
 rw[e,QiX (by omega) (by omega)]
theorem QlX (u:Nat):(u:Int).fdiv (2 ^ (min (32:Int).toNat IntKind.u64.bits))=((u / 4294967296:Nat):Int):=by
 have e:(2:Int) ^ (min (32:Int).toNat IntKind.u64.bits)=4294967296:=rfl
 rw[e,Int.fdiv_eq_ediv_of_nonneg _ (by decide)]
 rfl
theorem QgL {n:Nat} (h:n<18446744073709551616):IntKind.u64.wrap (n:Int)=(n:Int):=QiX (Int.natCast_nonneg _) (by omega)
theorem Qns (x b:Nat) (hx:x<18446744073709551616) (hb:b=2∨b=8∨b=10∨b=16) (H:Qa):Qf prog Yj [.int .u64 (x:Int),.int .u64 (b:Int)] H fun u H'=>u=.tuple #[.int .u64 ((x * b / 18446744073709551616:Nat):Int),.int .u64 ((x * b % 18446744073709551616:Nat):Int)]∧H'=H:=by
 refine QbB fun hw=>?_
 have hb16:b≤16:=by omega
 have t0:(0:Int)≤32:=by decide
 have a1:=QlW hx
 have a2:=QlW (u:=b) (by omega)
 have s1:=QlX x
 have s2:(b:Int).fdiv (2 ^ (min (32:Int).toNat IntKind.u64.bits))=((0:Nat):Int):=by rw[QlX,Nat.div_eq_of_lt (by omega)]
 rw[Nat.mod_eq_of_lt (show b<4294967296 by omega)]at a2
 have nm:∀p q:Nat,(p:Int) * (q:Int)=((p * q:Nat):Int):=fun p q=>by simp
 have na:∀p q:Nat,(p:Int)+(q:Int)=((p+q:Nat):Int):=fun p q=>by simp
 have hx0:x % 4294967296<4294967296:=Nat.mod_lt _ (by decide)
 have hx1:x / 4294967296<4294967296:=by omega
 have hxx:x=x / 4294967296 * 4294967296+x % 4294967296:=by omega
 generalize hX0:x % 4294967296=x0 at *
 generalize hX1:x / 4294967296=x1 at *
 have p1:x0 * b<18446744073709551616:=by rcases hb with rfl | rfl | rfl | rfl<;>omega
 have p2:x1 * b<18446744073709551616:=by rcases hb with rfl | rfl | rfl | rfl<;>omega
 have p3:x1 * b+x0 * b / 4294967296<18446744073709551616:=by rcases hb with rfl | rfl | rfl | rfl<;>omega
 have p4:(x1 * b+x0 * b / 4294967296) % 4294967296+x0 * 0<18446744073709551616:=by omega
 have p5:x1 * 0+(x1 * b+x0 * b / 4294967296) / 4294967296<18446744073709551616:=by omega
 have p6:x1 * 0+(x1 * b+x0 * b / 4294967296) / 4294967296+((x1 * b+x0 * b / 4294967296) % 4294967296+x0 * 0) / 4294967296<18446744073709551616:=by omega
 have r1:x1 * 0+(x1 * b+x0 * b / 4294967296) / 4294967296+((x1 * b+x0 * b / 4294967296) % 4294967296+x0 * 0) / 4294967296=x * b / 18446744073709551616:=by
  rw[hxx];rcases hb with rfl | rfl | rfl | rfl<;>omega
 have r2:IntKind.u64.wrap ((x * b:Nat):Int)=((x * b % 18446744073709551616:Nat):Int):=by rw[IntKind.wrap_u64];omega
 have z0:x0 * 0<18446744073709551616:=by omega
 have z1:x1 * 0<18446744073709551616:=by omega
 simp only[Gf,sxA,sxB,Nat.reduceBEq,Nat.reduceEqDiff,reduceCtorEq,mxA,mxB,Nat.reduceAdd,reduceIte,Nat.reduceLeDiff,splice,t0,a1,a2,s1,s2,nm,na,QgL p1,QgL p2,QlX,QgL p3,QlW p3,QgL z0,QgL z1,QgL p4,QgL p5,QgL p6,r2,Qa8]
 exact .mk (Nat.le_refl _) ⟨by rw[← r1],rfl⟩
def orT (k a b:Nat):Bool:=(List.range 256).all fun n=>(IntKind.u8.wrap ((BitVec.ofInt IntKind.u8.bits (n:Int) ||| BitVec.ofInt IntKind.u8.bits 32).toNat:Nat)==(k:Int))==(Nat.beq n a||Nat.beq n b)
theorem QjB {k a b:Nat} (h:orT k a b=true) (ha:a<256) (hb:b<256) (c:UInt8):(IntKind.u8.wrap ((BitVec.ofInt IntKind.u8.bits (c.toNat:Int) ||| BitVec.ofInt IntKind.u8.bits 32).toNat:Nat)==(k:Int))=(c==a.toUInt8||c==b.toUInt8):=by
 have h1:=beq_iff_eq.1 (List.all_eq_true.1 h c.toNat (List.mem_range.2 c.toNat_lt))
 rw[h1,← QiY c a ha,← QiY c b hb]
 congr 1
 ·rw[Bool.eq_iff_iff,beq_iff_eq,Nat.beq_eq];omega
 ·rw[Bool.eq_iff_iff,beq_iff_eq,Nat.beq_eq];omega
theorem Qph:orT 120 120 88=true:=by kernel_rfl
theorem Qpi:orT 104 104 72=true:=by kernel_rfl
theorem Qpj:orT 98 98 66=true:=by kernel_rfl
theorem Qpk:orT 111 111 79=true:=by kernel_rfl
theorem JN (w:List UInt8) (c d:UInt8):G4 w c d=(decide (2<w.length)&&(w[0]? == some 48)&&(w[1]? == some c||w[1]? == some d)):=by
 match w with
 | []=>simp[G4]
 | [_]=>simp[G4]
 | [_,_]=>simp[G4]
 | a::b::_::_=>
  have h1:∀x y:UInt8,(some x==some y)=(x==y):=fun _ _=>rfl
  simp[G4,h1]
theorem QdA (w:List UInt8) (h0:w≠[]) (hl:w.length≤1000000) (H:Qa):Qf prog Kc [.string (mkS w)] H fun u H'=>u=.tuple #[.int .i64 (Wh w).2.1,.int .i64 (Wh w).2.2,.int .i64 (Wh w).1]∧H'=H:=by
 refine QcF fun hw=>?_
 have hlen:0<w.length:=List.length_pos_iff.2 h0
 have e1:IntKind.i64.wrap ((w.length:Int) - 1)=((w.length - 1:Nat):Int):=by rw[w64 (by unfold I64;omega)];omega
 have t0:(0:Int)≤((w.length - 1:Nat):Int):=Int.natCast_nonneg _
 have u0:((w.length - 1:Nat):Int).toNat=w.length - 1:=Int.toNat_natCast _
 have hlast:w[w.length - 1]? = w.getLast? := List.getLast?_eq_getElem?.symm
 obtain⟨c,hc⟩:∃c,w.getLast? = some c:=by
  cases h:w.getLast? with
  | none=>exact absurd (List.getLast?_eq_none_iff.1 h) h0
  | some c=>exact⟨c,rfl⟩
 rw[hc]at hlast
 have s1:((some c==some (104:UInt8)):Bool)=(c==104):=rfl
 have s2:((some c==some (72:UInt8)):Bool)=(c==72):=rfl
 have oh:=QjB Qpi (by decide) (by decide) c
 have oh:(IntKind.u8.wrap ((BitVec.ofInt IntKind.u8.bits (c.toNat:Int) ||| BitVec.ofInt IntKind.u8.bits 32).toNat:Nat)==104)=(c==104||c==72):=oh
 have main:∀ (A:Env) (z:Int),A 0=.string (mkS w)→A 5=.int .u8 z→(z==120)=G4 w 120 88→(z==98)=G4 w 98 66→(z==111)=G4 w 111 79→
   Qw prog XV ⟨Rt prog Zf H fun u H'=>u=.tuple #[.int .i64 (Wh w).2.1,.int .i64 (Wh w).2.2,.int .i64 (Wh w).1]∧H'=H,Qa0⟩ (Rt prog Zf H fun u H'=>u=.tuple #[.int .i64 (Wh w).2.1,.int .i64 (Wh w).2.2,.int .i64 (Wh w).1]∧H'=H) A H:=by
  intro A z r0 r5 z1 z2 z3
  unfold Wh
  rw[hc,s1,s2]
  simp only[XV,sxA,sxB,Nat.reduceBEq,Nat.reduceEqDiff,reduceCtorEq,mxA,mxB,Nat.reduceAdd,reduceIte,Nat.reduceLeDiff,splice,Qe,Qg,Qk,r0,r5,e1,t0,u0,hlast,z1]
  cases hb1:G4 w 120 88 with
  | true=>
   simp only[sxA,sxB,Nat.reduceBEq,Nat.reduceEqDiff,reduceCtorEq,mxA,mxB,Nat.reduceAdd,reduceIte,Nat.reduceLeDiff,splice,r0,Qe,Qg,W7]
   exact .mk (Nat.le_refl _) ⟨rfl,rfl⟩
  | false=>
   simp only[Ge,sxA,sxB,Nat.reduceBEq,Nat.reduceEqDiff,reduceCtorEq,mxA,mxB,Nat.reduceAdd,reduceIte,Nat.reduceLeDiff,splice,oh]
   cases h104:(c==104||c==72) with
   | true=>
    simp only[sxA,sxB,Nat.reduceBEq,Nat.reduceEqDiff,reduceCtorEq,mxA,mxB,Nat.reduceAdd,reduceIte,Nat.reduceLeDiff,splice,r0,Qe,Qg,e1,W7]
    exact .mk (Nat.le_refl _) ⟨rfl,rfl⟩
   | false=>
    simp only[Gd,sxA,sxB,Nat.reduceBEq,Nat.reduceEqDiff,reduceCtorEq,mxA,mxB,Nat.reduceAdd,reduceIte,Nat.reduceLeDiff,splice,r5,z2]
    cases hb2:G4 w 98 66 with
    | true=>
     simp only[sxA,sxB,Nat.reduceBEq,Nat.reduceEqDiff,reduceCtorEq,mxA,mxB,Nat.reduceAdd,reduceIte,Nat.reduceLeDiff,splice,r0,Qe,Qg,W7]
     exact .mk (Nat.le_refl _) ⟨rfl,rfl⟩
    | false=>
     simp only[Gc,sxA,sxB,Nat.reduceBEq,Nat.reduceEqDiff,reduceCtorEq,mxA,mxB,Nat.reduceAdd,reduceIte,Nat.reduceLeDiff,splice,r5,z3]
     cases hb3:G4 w 111 79 with
     | true=>
      simp only[sxA,sxB,Nat.reduceBEq,Nat.reduceEqDiff,reduceCtorEq,mxA,mxB,Nat.reduceAdd,reduceIte,Nat.reduceLeDiff,splice,r0,Qe,Qg,W7]
      exact .mk (Nat.le_refl _) ⟨rfl,rfl⟩
     | false=>
      simp only[sxA,sxB,Nat.reduceBEq,Nat.reduceEqDiff,reduceCtorEq,mxA,mxB,Nat.reduceAdd,reduceIte,Nat.reduceLeDiff,splice,r0,Qe,Qg,W7]
      exact .mk (Nat.le_refl _) ⟨rfl,rfl⟩
 have no:∀A:Env,A 0=.string (mkS w)→A 5=.int .u8 0→(decide (2<w.length)&&(w[0]? == some 48))=false→Qw prog XV ⟨Rt prog Zf H fun u H'=>u=.tuple #[.int .i64 (Wh w).2.1,.int .i64 (Wh w).2.2,.int .i64 (Wh w).1]∧H'=H,Qa0⟩ (Rt prog Zf H fun u H'=>u=.tuple #[.int .i64 (Wh w).2.1,.int .i64 (Wh w).2.2,.int .i64 (Wh w).1]∧H'=H) A H:=fun A q0 q5 hb=>
  main A 0 q0 q5 (by rw[JN,hb];rfl) (by rw[JN,hb];rfl) (by rw[JN,hb];rfl)
 have t00:(0:Int)≤0:=by decide
 have t11:(0:Int)≤1:=by decide
 have u00:(0:Int).toNat=0:=rfl
 have u11:(1:Int).toNat=1:=rfl
 by_cases h2:(2:Int)<w.length
 ·obtain⟨x,y,hx,hy⟩:∃x y,w[0]? = some x∧w[1]? = some y:=⟨_,_,List.getElem?_eq_getElem (show 0<w.length by omega),List.getElem?_eq_getElem (show 1<w.length by omega)⟩
  have e48:((x.toNat:Int)==48)=(x==48):=QiY x 48 (by decide)
  simp only[JJ,sxA,sxB,Nat.reduceBEq,Nat.reduceEqDiff,reduceCtorEq,mxA,mxB,Nat.reduceAdd,reduceIte,Nat.reduceLeDiff,splice,Qe,Qg,Qk,decide_eq_true h2,t00,t11,u00,u11,hx,hy,e48]
  have d2:decide (2<w.length)=true:=decide_eq_true (by omega)
  have h1:∀a b:UInt8,(some a==some b)=(a==b):=fun _ _=>rfl
  cases hxx:x==48 with
  | false=>
   simp only[sxA,sxB,Nat.reduceBEq,Nat.reduceEqDiff,reduceCtorEq,mxA,mxB,Nat.reduceAdd,reduceIte,Nat.reduceLeDiff,splice]
   exact no _ (by simp only[uxA,uxB,Nat.reduceBEq]) (by simp only[uxA,uxB,Nat.reduceBEq]) (by rw[hx,h1,hxx,Bool.and_false])
  | true=>
   simp only[sxA,sxB,Nat.reduceBEq,Nat.reduceEqDiff,reduceCtorEq,mxA,mxB,Nat.reduceAdd,reduceIte,Nat.reduceLeDiff,splice,Qk,Qg,t11,u11,hy]
   refine main _ _ (by simp only[uxA,uxB,Nat.reduceBEq]) (by simp only[uxA,uxB,Nat.reduceBEq];rfl) ?_ ?_ ?_
   ·rw[JN,d2,hx,hy,h1,h1,h1,hxx];exact QjB Qph (by decide) (by decide) y
   ·rw[JN,d2,hx,hy,h1,h1,h1,hxx];exact QjB Qpj (by decide) (by decide) y
   ·rw[JN,d2,hx,hy,h1,h1,h1,hxx];exact QjB Qpk (by decide) (by decide) y
 ·have d2:decide (2<w.length)=false:=decide_eq_false (by omega)
  simp only[JJ,sxA,sxB,Nat.reduceBEq,Nat.reduceEqDiff,reduceCtorEq,mxA,mxB,Nat.reduceAdd,reduceIte,Nat.reduceLeDiff,splice,Qe,Qg,decide_eq_false h2]
  exact no _ (by simp only[uxA,uxB,Nat.reduceBEq]) (by simp only[uxA,uxB,Nat.reduceBEq]) (by rw[d2,Bool.false_and])
def QlY (R:Nat ⊕ Nat) (d:List UInt8) (u:Value):Prop:=match R with
 | .inl p=>u=.tuple #[.int .u64 0,.int .i64 (p:Int),.bool false]
 | .inr acc=>if d=[] then u=.tuple #[.int .u64 0,.int .i64 0,.bool false] else ∃n:Nat,n<18446744073709551616∧(acc<18446744073709551616→n=acc)∧u=.tuple #[.int .u64 (n:Int),.int .i64 (-1),.bool (decide (18446744073709551616≤acc))]
def QgM (H:Qa) (d:List UInt8) (of:Nat) (R:Nat ⊕ Nat) (m:Nat) (A':Env) (H':Qa):Prop:=∃ (i n acc:Nat) (prev ov:Bool),m=d.length - i∧H'=H∧i≤d.length∧ZE of (d.drop i) prev i acc=R∧prev=(decide (i=0)||(d[i - 1]? == some 95))∧ov=decide (18446744073709551616≤acc)∧n<18446744073709551616∧(ov=false→n=acc)∧A' 0=.string (mkS d)∧A' 1=.int .i64 of∧A' 7=.int .u64 n∧A' 8=.int .i64 i∧A' 9=.bool ov
theorem Qpl {c:Nat} {of:Nat} (ho:of≤16):∃z:Int,Qno c=.int .i64 z∧(decide (z<0)||decide ((of:Int)≤z))=!Nat.blt (YE c) of∧(Nat.blt (YE c) of=true→z=YE c):=by
 unfold Qno
 cases h:Nat.blt (YE c) 16 with
 | true=>
  have h16:YE c<16:=by simpa using h
  refine⟨(YE c:Int),rfl,?_,fun _=>rfl⟩
  rw[Z6,Bool.eq_iff_iff]
  simp only[Bool.or_eq_true,decide_eq_true_eq,Bool.not_eq_true',decide_eq_false_iff_not]
  omega
 | false=>
  have h16:¬YE c<16:=by rw[Z6]at h;exact of_decide_eq_false h
  refine⟨-1,rfl,?_,fun hb=>?_⟩
  ·rw[Z6,Bool.eq_iff_iff]
   simp only[Bool.or_eq_true,decide_eq_true_eq,Bool.not_eq_true',decide_eq_false_iff_not]
   omega
  ·have:YE c<of:=by simpa using hb
   omega
theorem Qkx (n b z acc:Nat) (hn:n=acc) (hn2:n<18446744073709551616) (hz:z<16) (hb:b≤16):(!(((n * b / 18446744073709551616:Nat):Int)==0)||!((((n * b % 18446744073709551616+z) / 18446744073709551616:Nat):Int)==0))=decide (18446744073709551616≤acc * b+z):=by
 subst hn
 rw[Bool.eq_iff_iff]
 simp only[Bool.or_eq_true,Bool.not_eq_true',beq_eq_false_iff_ne,decide_eq_true_eq,ne_eq]
 generalize n * b=q
 omega
theorem Qky (x z:Nat) (hx:x<18446744073709551616) (hz:z<16):Xk.add64.val [.int .u64 (x:Int),.int .u64 (z:Int),.int .u64 0]=some (.tuple #[.int .u64 (((x+z) % 18446744073709551616:Nat):Int),.int .u64 (((x+z) / 18446744073709551616:Nat):Int)]):=by
 simp[Xk.val]
theorem QcL (d:List UInt8) (of:Nat) (hof:of=2∨of=8∨of=10∨of=16) (hl:d.length≤1000000) (H:Qa):Qf prog JF [.string (mkS d),.int .i64 (of:Int)] H fun u H'=>QlY (ZE of d true 0 0) d u∧H'=H:=by
 refine Qb8 fun hw=>?_
 simp only[GO,sxA,sxB,Nat.reduceBEq,Nat.reduceEqDiff,reduceCtorEq,mxA,mxB,Nat.reduceAdd,reduceIte,Nat.reduceLeDiff,splice]
 generalize hR:ZE of d true 0 0=R
 have body:∀m A' H',QgM H d of R m A' H'→Qw prog Wv ⟨Rt prog Vq H fun u H'=>QlY R d u∧H'=H,jmK 0 (QgM H d of R) m Qa0⟩ (Rt prog Vq H fun u H'=>QlY R d u∧H'=H) A' H':=by
  rintro m A' H' ⟨i,n,acc,prev,ov,rfl,hEq,hil,hdg,hpv,hov,hn,hna,r0,r1,r7,r8,r9⟩
  subst hEq
  have f0:((i:Int)==(d.length:Int))=decide (i=d.length):=by rw[Bool.eq_iff_iff,beq_iff_eq,decide_eq_true_eq];omega
  have f1:((i:Int)==0)=decide (i=0):=by rw[Bool.eq_iff_iff,beq_iff_eq,decide_eq_true_eq];omega
  by_cases hi:i<d.length
  ·have g0:decide (i=d.length)=false:=decide_eq_false (by omega)
   have hp:=List.getElem?_eq_getElem hi
   have t0:(0:Int)≤(i:Int):=Int.natCast_nonneg _
   have u0:(i:Int).toNat=i:=Int.toNat_natCast _
   have hds:d.drop i=d[i]::d.drop (i+1):=List.drop_eq_getElem_cons hi
   have hem:(d.drop (i+1)).isEmpty=decide (i+1=d.length):=by
    rw[Bool.eq_iff_iff,List.isEmpty_iff,List.drop_eq_nil_iff,decide_eq_true_eq];omega
   rw[hds]at hdg
   have hpn:d[i+1 - 1]? = some d[i]:=hp
   generalize d[i]=c at *
   have e95:((c.toNat:Int)==95)=(c==95):=QiY c 95 (by decide)
   have ei:IntKind.i64.wrap ((i:Int)+1)=((i+1:Nat):Int):=by rw[w64 (by unfold I64;omega)];rfl
   have f2:((i:Int)==IntKind.i64.wrap ((d.length:Int) - 1))=decide (i+1=d.length):=by rw[w64 (by unfold I64;omega),Bool.eq_iff_iff,beq_iff_eq,decide_eq_true_eq];omega
   simp only[Wv,Kq,sxA,sxB,Nat.reduceBEq,Nat.reduceEqDiff,reduceCtorEq,mxA,mxB,Nat.reduceAdd,reduceIte,Nat.reduceLeDiff,splice,Qe,Qk,Qg,r0,r1,r7,r8,r9,f0,g0,t0,u0,hp,e95]
   rw[ZE,hem]at hdg
   cases hc:c==95 with
   | true=>
    rw[hc,cond_true]at hdg
    simp only[Ko,sxA,sxB,Nat.reduceBEq,Nat.reduceEqDiff,reduceCtorEq,mxA,mxB,Nat.reduceAdd,reduceIte,Nat.reduceLeDiff,splice,Qe,Qg,r0,r1,r7,r8,r9,f1,f2]
    cases hf:decide (i=0) with
    | true=>
     rw[hf,Bool.true_or]at hpv
     rw[hpv,Bool.true_or,cond_true]at hdg
     simp only[sxA,sxB,Nat.reduceBEq,Nat.reduceEqDiff,reduceCtorEq,mxA,mxB,Nat.reduceAdd,reduceIte,Nat.reduceLeDiff,splice,r8,QT]
     rw[← hdg]
     exact .mk (Nat.le_refl _) ⟨rfl,rfl⟩
    | false=>
     cases ht:decide (i+1=d.length) with
     | true=>
      rw[ht,Bool.or_true,cond_true]at hdg
      simp only[sxA,sxB,Nat.reduceBEq,Nat.reduceEqDiff,reduceCtorEq,mxA,mxB,Nat.reduceAdd,reduceIte,Nat.reduceLeDiff,splice,Qe,Qg,r0,r8,f2,ht,QT]
      rw[← hdg]
      exact .mk (Nat.le_refl _) ⟨rfl,rfl⟩
     | false=>
      have hfi2:0<i:=by have:=of_decide_eq_false hf;omega
      have hp2:=List.getElem?_eq_getElem (show i - 1<d.length by omega)
      have ei2:IntKind.i64.wrap ((i:Int) - 1)=((i - 1:Nat):Int):=by rw[w64 (by unfold I64;omega)];omega
      have t2:(0:Int)≤((i - 1:Nat):Int):=Int.natCast_nonneg _
      have u2:((i - 1:Nat):Int).toNat=i - 1:=Int.toNat_natCast _
      rw[hf,Bool.false_or,hp2]at hpv
      generalize d[i - 1]=c2 at *
      have f95:((c2.toNat:Int)==95)=(c2==95):=QiY c2 95 (by decide)
      have hpv:prev=(c2==95):=hpv
      rw[← hpv]at f95
      simp only[sxA,sxB,Nat.reduceBEq,Nat.reduceEqDiff,reduceCtorEq,mxA,mxB,Nat.reduceAdd,reduceIte,Nat.reduceLeDiff,splice,Qe,r0,r1,r7,r8,r9,f2,ht,ei2,Qk,Qg,t2,u2,hp2,f95]
      cases hpr:prev with
      | true=>
       rw[hpr,Bool.true_or,cond_true]at hdg
       simp only[sxA,sxB,Nat.reduceBEq,Nat.reduceEqDiff,reduceCtorEq,mxA,mxB,Nat.reduceAdd,reduceIte,Nat.reduceLeDiff,splice,r8,QT]
       rw[← hdg]
       exact .mk (Nat.le_refl _) ⟨rfl,rfl⟩
      | false=>
       rw[hpr,ht,Bool.or_false,cond_false]at hdg
       have hne:¬i+1=d.length:=of_decide_eq_false ht
       simp only[sxA,sxB,Nat.reduceBEq,Nat.reduceEqDiff,reduceCtorEq,mxA,mxB,Nat.reduceAdd,reduceIte,Nat.reduceLeDiff,splice,r8,ei,Qb1]
       refine⟨d.length - (i+1),by omega,i+1,n,acc,true,ov,rfl,rfl,by omega,hdg,?_,hov,hn,hna,?_,?_,?_,?_,?_⟩
       ·rw[hpn,beq_iff_eq.1 hc];simp
       all_goals simp only[uxA,uxB,Nat.reduceBEq,r0,r1,r7,r8,r9]
   | false=>
    rw[hc,cond_false]at hdg
    simp only[Kn,sxA,sxB,Nat.reduceBEq,Nat.reduceEqDiff,reduceCtorEq,mxA,mxB,Nat.reduceAdd,reduceIte,Nat.reduceLeDiff,splice,Qk,Qg,r0,r8,t0,u0,hp]
    refine(Qdz c.toNat c.toNat_lt H').thenW ?_
    rintro _ H2 _ hw2 ⟨rfl,rfl⟩
    obtain⟨z,hz,hzb,hzv⟩:=Qpl (c:=c.toNat) (of:=of) (by omega)
    rw[hz]
    cases hb:Nat.blt (YE c.toNat) of with
    | false=>
     rw[hb,cond_false]at hdg
     rw[hb,Bool.not_false]at hzb
     simp only[sxA,sxB,Nat.reduceBEq,Nat.reduceEqDiff,reduceCtorEq,mxA,mxB,Nat.reduceAdd,reduceIte,Nat.reduceLeDiff,splice,r1,r8]
     cases hz0:decide (z<0) with
     | true=>
      simp only[sxA,sxB,Nat.reduceBEq,Nat.reduceEqDiff,reduceCtorEq,mxA,mxB,Nat.reduceAdd,reduceIte,Nat.reduceLeDiff,splice,r8,QT]
      rw[← hdg]
      exact .mk (Nat.le_refl _) ⟨rfl,rfl⟩
     | false=>
      rw[hz0,Bool.false_or]at hzb
      simp only[sxA,sxB,Nat.reduceBEq,Nat.reduceEqDiff,reduceCtorEq,mxA,mxB,Nat.reduceAdd,reduceIte,Nat.reduceLeDiff,splice,r1,r8,hzb,QT]
      rw[← hdg]
      exact .mk (Nat.le_refl _) ⟨rfl,rfl⟩
    | true=>
     rw[hb,cond_true]at hdg
     rw[hb,Bool.not_true,Bool.or_eq_false_iff]at hzb
     obtain⟨z1,z2⟩:=hzb
     have hzd:=hzv hb
     have hdo:YE c.toNat<of:=by simpa using hb
     simp only[sxA,sxB,Nat.reduceBEq,Nat.reduceEqDiff,reduceCtorEq,mxA,mxB,Nat.reduceAdd,reduceIte,Nat.reduceLeDiff,splice,r1,r7,r8,r9,z1,z2,Km]
     rw[hzd]
     generalize hdd:YE c.toNat=dd at *
     have w1:IntKind.u64.wrap (of:Int)=(of:Int):=QiX (by omega) (by omega)
     have w2:IntKind.u64.wrap (dd:Int)=(dd:Int):=QiX (by omega) (by omega)
     simp only[sxA,sxB,Nat.reduceBEq,Nat.reduceEqDiff,reduceCtorEq,mxA,mxB,Nat.reduceAdd,reduceIte,Nat.reduceLeDiff,splice,w1]
     refine(Qns n of hn hof H2).thenW ?_
     rintro _ H3 _ hw3 ⟨rfl,rfl⟩
     simp only[sxA,sxB,Nat.reduceBEq,Nat.reduceEqDiff,reduceCtorEq,mxA,mxB,Nat.reduceAdd,reduceIte,Nat.reduceLeDiff,splice,w2]
     refine QaV QfS (Qky _ dd (Nat.mod_lt _ (by decide)) (by omega)) ?_
     have hmono:18446744073709551616≤acc→18446744073709551616≤acc * of+dd:=fun h=>by
      have h1:acc * 1≤acc * of:=Nat.mul_le_mul_left _ (by omega)
      omega
     have fin:∀ (A2:Env) (ov':Bool),ov'=decide (18446744073709551616≤acc * of+dd)→A2 0=.string (mkS d)→A2 1=.int .i64 of→A2 7=.int .u64 (((n * of % 18446744073709551616+dd) % 18446744073709551616:Nat):Int)→A2 8=.int .i64 ((i+1:Nat):Int)→A2 9=.bool ov'→∃m',m'<d.length - i∧QgM H3 d of R m' A2 H3:=fun A2 ov' ho q0 q1 q7 q8 q9=>by
      refine⟨d.length - (i+1),by omega,i+1,_,acc * of+dd,false,ov',rfl,rfl,by omega,hdg,?_,ho,Nat.mod_lt _ (by decide),fun h=>?_,q0,q1,q7,q8,q9⟩
      ·rw[hpn]
       have h3:(some c==some (95:UInt8))=(c==95):=rfl
       rw[h3,hc];simp
      ·rw[h]at ho
       have h4:=of_decide_eq_false ho.symm
       have h5:ov=false:=by
        cases hv:ov with
        | false=>rfl
        | true=>rw[hv]at hov;exact absurd (hmono (of_decide_eq_true hov.symm)) h4
       rw[hna h5]
       generalize acc * of=q at *
       omega
     cases hv:ov with
     | true=>
      rw[hv]at hov
      simp only[sxA,sxB,Nat.reduceBEq,Nat.reduceEqDiff,reduceCtorEq,mxA,mxB,Nat.reduceAdd,reduceIte,Nat.reduceLeDiff,splice,r8,r9,hv,ei,Qb1]
      exact fin _ true (decide_eq_true (hmono (of_decide_eq_true hov.symm))).symm (by simp only[uxA,uxB,Nat.reduceBEq,r0]) (by simp only[uxA,uxB,Nat.reduceBEq,r1]) (by simp only[uxA,uxB,Nat.reduceBEq]) (by simp only[uxA,uxB,Nat.reduceBEq]) (by simp only[uxA,uxB,Nat.reduceBEq])
     | false=>
      have hcar:=Qkx n of dd acc (hna hv) hn (by omega) (by omega)
      simp only[sxA,sxB,Nat.reduceBEq,Nat.reduceEqDiff,reduceCtorEq,mxA,mxB,Nat.reduceAdd,reduceIte,Nat.reduceLeDiff,splice,r8,r9,hv,ei]
      cases hA:(((n * of / 18446744073709551616:Nat):Int)==0) with
      | false=>
       rw[hA,Bool.not_false,Bool.true_or]at hcar
       simp only[sxA,sxB,Nat.reduceBEq,Nat.reduceEqDiff,reduceCtorEq,mxA,mxB,Nat.reduceAdd,reduceIte,Nat.reduceLeDiff,splice,r8,hA,ei,Qb1]
       exact fin _ true hcar (by simp only[uxA,uxB,Nat.reduceBEq,r0]) (by simp only[uxA,uxB,Nat.reduceBEq,r1]) (by simp only[uxA,uxB,Nat.reduceBEq]) (by simp only[uxA,uxB,Nat.reduceBEq]) (by simp only[uxA,uxB,Nat.reduceBEq])
      | true=>
       rw[hA,Bool.not_true,Bool.false_or]at hcar
       simp only[sxA,sxB,Nat.reduceBEq,Nat.reduceEqDiff,reduceCtorEq,mxA,mxB,Nat.reduceAdd,reduceIte,Nat.reduceLeDiff,splice,r8,hA,ei,Qb1]
       exact fin _ _ hcar (by simp only[uxA,uxB,Nat.reduceBEq,r0]) (by simp only[uxA,uxB,Nat.reduceBEq,r1]) (by simp only[uxA,uxB,Nat.reduceBEq]) (by simp only[uxA,uxB,Nat.reduceBEq]) (by simp only[uxA,uxB,Nat.reduceBEq])
  ·have hit:i=d.length:=by omega
   have g0:decide (i=d.length)=true:=decide_eq_true hit
   rw[List.drop_eq_nil_of_le (by omega),ZE]at hdg
   simp only[Wv,Kr,sxA,sxB,Nat.reduceBEq,Nat.reduceEqDiff,reduceCtorEq,mxA,mxB,Nat.reduceAdd,reduceIte,Nat.reduceLeDiff,splice,Qe,Qg,r0,r7,r8,r9,f0,g0,f1]
   cases hf:decide (i=0) with
   | true=>
    have hd0:d=[]:=List.eq_nil_of_length_eq_zero (by have:=of_decide_eq_true hf;omega)
    simp only[sxA,sxB,Nat.reduceBEq,Nat.reduceEqDiff,reduceCtorEq,mxA,mxB,Nat.reduceAdd,reduceIte,Nat.reduceLeDiff,splice,QT]
    rw[← hdg]
    exact .mk (Nat.le_refl _) ⟨by simp only[QlY];rw[if_pos hd0];trivial,rfl⟩
   | false=>
    have hd0:¬d=[]:=fun h=>by have:=of_decide_eq_false hf;rw[h]at hit;exact this hit
    simp only[sxA,sxB,Nat.reduceBEq,Nat.reduceEqDiff,reduceCtorEq,mxA,mxB,Nat.reduceAdd,reduceIte,Nat.reduceLeDiff,splice,r7,r9,QT]
    rw[← hdg]
    refine .mk (Nat.le_refl _) ⟨by simp only[QlY];rw[if_neg hd0];exact⟨n,hn,fun h=>hna (by rw[hov];exact decide_eq_false (by omega)),by rw[hov]⟩,rfl⟩
 have e126:JX=Wv:=rfl
 refine Qhp (QgM H d of R) d.length ?_ body
 simp only[JY,sxA,sxB,Nat.reduceBEq,Nat.reduceEqDiff,reduceCtorEq,mxA,mxB,Nat.reduceAdd,reduceIte,Nat.reduceLeDiff,splice,e126]
 refine body d.length _ H ⟨0,0,0,true,false,rfl,rfl,Nat.zero_le _,hR,by simp,by simp,by decide,fun _=>rfl,?_,?_,?_,?_,?_⟩
 all_goals simp only[uxA,uxB,Nat.reduceBEq]
 all_goals rfl
theorem QhE (b:BitVec 64):BitVec.ofInt 64 (b.toNat:Int)=b:=by
 apply BitVec.eq_of_toNat_eq
 rw[BitVec.toNat_ofInt]
 have:=b.isLt
 omega
theorem QhF (n:Int):BitVec.ofInt 64 (IntKind.u64.wrap n)=BitVec.ofInt 64 n:=by
 apply BitVec.eq_of_toNat_eq
 rw[BitVec.toNat_ofInt,BitVec.toNat_ofInt,IntKind.wrap_u64]
 omega
theorem QhG (b:BitVec 64):IntKind.u64.wrap (b.toNat:Int)=(b.toNat:Int):=QgL b.isLt
theorem QeD (s:List UInt8) (hl:s.length≤1000000) (a:Nat) (ha:a<s.length) (H:Qa):Qf prog KQ [.string (mkS s),.int .i64 (a:Int)] H fun u H'=>u=(QaF (s.drop (a+1)) (a+1) 0 0).val∧Ext H H':=by
 refine Qdy fun hw=>?_
 have ea:IntKind.i64.wrap ((a:Int)+1)=((a+1:Nat):Int):=by rw[w64 (by unfold I64;omega)];rfl
 simp only[V0,sxA,sxB,Nat.reduceBEq,Nat.reduceEqDiff,reduceCtorEq,mxA,mxB,Nat.reduceAdd,reduceIte,Nat.reduceLeDiff,splice,ea]
 generalize hE:H.push _=H1
 have hR0:∃e,H1=H.push (.cells [.int .i64 0,.int .i64 0] e false):=⟨_,hE.symm⟩
 obtain⟨e,h1⟩:=hR0
 clear hE
 have hx1:Ext H H1:=by rw[h1];exact(Ext.refl H).push _
 have hg1:H1.get H.next=some (.cells [.int .i64 0,.int .i64 0] e false):=by rw[h1,Qa.get_push,if_pos rfl]
 clear h1
 have hnn:=hx1.next
 have done:∀c,Ext H (H1.set H.next (.cells c e false)):=fun c=>hx1.set (Nat.le_refl _) _
 generalize hR:QaF (s.drop (a+1)) (a+1) 0 0=R
 refine QC (fun m A' H'=>∃ (i k:Nat) (acc:BitVec 64),m=s.length - i∧H'=H1∧i=a+1+k∧i≤s.length∧k≤8∧QaF (s.drop i) i k acc=R∧A' 0=.string (mkS s)∧A' 1=.int .i64 a∧A' 6=.pointer (some ⟨H.next,0,none⟩)∧A' 7=.int .u64 (acc.toNat:Int)∧A' 8=.int .i64 i) (s.length - (a+1)) ?_ ?_
 ·refine⟨a+1,0,0,rfl,rfl,rfl,by omega,by omega,hR,?_,?_,?_,?_,?_⟩
  all_goals simp only[uxA,uxB,Nat.reduceBEq]
  all_goals rfl
 ·rintro m A' H' ⟨i,k,acc,rfl,hEq,hik,hil,hk8,ht,r0,r1,r6,r7,r8⟩
  subst hEq
  by_cases hi:i<s.length
  ·have e1:decide ((i:Int)<(s.length:Int))=true:=decide_eq_true (by omega)
   have hp:=List.getElem?_eq_getElem hi
   have t0:(0:Int)≤(i:Int):=Int.natCast_nonneg _
   have u0:(i:Int).toNat=i:=Int.toNat_natCast _
   have hds:s.drop i=s[i]::s.drop (i+1):=List.drop_eq_getElem_cons hi
   rw[hds]at ht
   generalize s[i]=c at *
   have e39:((c.toNat:Int)==39)=(c==39):=QiY c 39 (by decide)
   have ei:IntKind.i64.wrap ((i:Int)+1)=((i+1:Nat):Int):=by rw[w64 (by unfold I64;omega)];rfl
   have ek:IntKind.i64.wrap (IntKind.i64.wrap ((i:Int) - (a:Int)) - 1)=(k:Int):=by rw[w64 (n:=(i:Int) - a) (by unfold I64;omega),w64 (by unfold I64;omega)];omega
   have ek0:((k:Int)==0)=Nat.beq k 0:=by rw[Bool.eq_iff_iff,beq_iff_eq,Nat.beq_eq];omega
   simp only[ZZ,GN,sxA,sxB,Nat.reduceBEq,Nat.reduceEqDiff,reduceCtorEq,mxA,mxB,Nat.reduceAdd,reduceIte,Nat.reduceLeDiff,splice,Qe,Qk,Qg,r0,r1,r6,r7,r8,e1,t0,u0,hp,e39,ek]
   rw[QaF]at ht
   cases hc:c==39 with
   | true=>
    rw[hc,cond_true]at ht
    simp only[sxA,sxB,Nat.reduceBEq,Nat.reduceEqDiff,reduceCtorEq,mxA,mxB,Nat.reduceAdd,reduceIte,Nat.reduceLeDiff,splice,ek0]
    cases hk0:Nat.beq k 0 with
    | true=>
     rw[hk0,cond_true]at ht
     simp only[sxA,sxB,Nat.reduceBEq,Nat.reduceEqDiff,reduceCtorEq,mxA,mxB,Nat.reduceAdd,reduceIte,Nat.reduceLeDiff,splice,r0,r1,r6,r7,r8,hg1,WB]
     rw[← ht]
     exact .mk (by rw[Qa.next_set];omega) ⟨rfl,done _⟩
    | false=>
     rw[hk0,cond_false]at ht
     simp only[ZY,sxA,sxB,Nat.reduceBEq,Nat.reduceEqDiff,reduceCtorEq,mxA,mxB,Nat.reduceAdd,reduceIte,Nat.reduceLeDiff,splice,Qe,Qk,Qg,r0,r1,r6,r7,r8,t0,u0,hp,e39,hc,ei,hg1,QeB,WB]
     rw[← ht]
     exact .mk (by rw[Qa.next_set];omega) ⟨rfl,done _⟩
   | false=>
    rw[hc,cond_false]at ht
    have f1:decide ((c.toNat:Int)<32)=Nat.blt c.toNat 32:=by rw[Z6];simp only[decide_eq_decide];omega
    have f2:decide ((126:Int)<(c.toNat:Int))=Nat.blt 126 c.toNat:=by rw[Z6];simp only[decide_eq_decide];omega
    simp only[ZY,GL,sxA,sxB,Nat.reduceBEq,Nat.reduceEqDiff,reduceCtorEq,mxA,mxB,Nat.reduceAdd,reduceIte,Nat.reduceLeDiff,splice,Qe,Qk,Qg,r0,r1,r6,r7,r8,t0,u0,hp,e39,hc,f1,f2]
    cases g1:Nat.blt c.toNat 32 with
    | true=>
     rw[g1,Bool.true_or,cond_true]at ht
     simp only[sxA,sxB,Nat.reduceBEq,Nat.reduceEqDiff,reduceCtorEq,mxA,mxB,Nat.reduceAdd,reduceIte,Nat.reduceLeDiff,splice,r0,r1,r6,r7,r8,hg1,WB]
     rw[← ht]
     exact .mk (by rw[Qa.next_set];omega) ⟨rfl,done _⟩
    | false=>
     rw[g1,Bool.false_or]at ht
     simp only[sxA,sxB,Nat.reduceBEq,Nat.reduceEqDiff,reduceCtorEq,mxA,mxB,Nat.reduceAdd,reduceIte,Nat.reduceLeDiff,splice,Qe,Qk,Qg,r0,r1,r6,r7,r8,t0,u0,hp,f2]
     cases g2:Nat.blt 126 c.toNat with
     | true=>
      rw[g2,cond_true]at ht
      simp only[sxA,sxB,Nat.reduceBEq,Nat.reduceEqDiff,reduceCtorEq,mxA,mxB,Nat.reduceAdd,reduceIte,Nat.reduceLeDiff,splice,r0,r1,r6,r7,r8,hg1,WB]
      rw[← ht]
      exact .mk (by rw[Qa.next_set];omega) ⟨rfl,done _⟩
     | false=>
      rw[g2,cond_false]at ht
      have ek8:((k:Int)==8)=Nat.beq k 8:=by rw[Bool.eq_iff_iff,beq_iff_eq,Nat.beq_eq];omega
      simp only[GK,sxA,sxB,Nat.reduceBEq,Nat.reduceEqDiff,reduceCtorEq,mxA,mxB,Nat.reduceAdd,reduceIte,Nat.reduceLeDiff,splice,ek8]
      cases g3:Nat.beq k 8 with
      | true=>
       rw[g3,cond_true]at ht
       simp only[sxA,sxB,Nat.reduceBEq,Nat.reduceEqDiff,reduceCtorEq,mxA,mxB,Nat.reduceAdd,reduceIte,Nat.reduceLeDiff,splice,r0,r1,r6,r7,r8,hg1,WB]
       rw[← ht]
       exact .mk (by rw[Qa.next_set];omega) ⟨rfl,done _⟩
      | false=>
       rw[g3,cond_false]at ht
       have hk7:k<8:=by
        rcases Nat.lt_or_ge k 8 with h | h
        ·exact h
        ·have:k=8:=by omega
         rw[this]at g3;cases g3
       have hcl:(c.toNat:Int)<256:=by have:=c.toNat_lt;omega
       have w1:IntKind.u64.wrap (c.toNat:Int)=(c.toNat:Int):=QiX (by omega) (by omega)
       have w2:IntKind.i64.wrap (8 * (k:Int))=((8 * k:Nat):Int):=by rw[w64 (by unfold I64;omega)];omega
       have w3:min (((8 * k:Nat):Int).toNat) IntKind.u64.bits=8 * k:=by rw[Int.toNat_natCast];show min (8 * k) 64=8 * k;omega
       have w4:(0:Int)≤((8 * k:Nat):Int):=Int.natCast_nonneg _
       have w5:IntKind.u64.wrap ((BitVec.ofInt IntKind.u64.bits (acc.toNat:Int) ||| BitVec.ofInt IntKind.u64.bits (IntKind.u64.wrap ((c.toNat:Int) * 2 ^ (8 * k)))).toNat:Int)=((acc ||| BitVec.ofInt 64 ((c.toNat:Int) * 2 ^ (8 * k))).toNat:Int):=by
        show IntKind.u64.wrap ((BitVec.ofInt 64 (acc.toNat:Int) ||| BitVec.ofInt 64 (IntKind.u64.wrap ((c.toNat:Int) * 2 ^ (8 * k)))).toNat:Int)=_
        rw[QhE,QhF,QhG]
       simp only[sxA,sxB,Nat.reduceBEq,Nat.reduceEqDiff,reduceCtorEq,mxA,mxB,Nat.reduceAdd,reduceIte,Nat.reduceLeDiff,splice,Qe,Qk,Qg,r0,r1,r6,r7,r8,t0,u0,hp,w1,w2,w3,w4,w5,ei]
       refine⟨s.length - (i+1),by omega,i+1,k+1,_,rfl,rfl,by omega,by omega,by omega,ht,?_,?_,?_,?_,?_⟩
       all_goals simp only[uxA,uxB,Nat.reduceBEq,r0,r1,r6,r7,r8]
  ·have e1:decide ((i:Int)<(s.length:Int))=false:=decide_eq_false (by omega)
   have hit:i=s.length:=by omega
   subst hit
   rw[List.drop_length,QaF]at ht
   simp only[ZZ,sxA,sxB,Nat.reduceBEq,Nat.reduceEqDiff,reduceCtorEq,mxA,mxB,Nat.reduceAdd,reduceIte,Nat.reduceLeDiff,splice,Qe,Qg,r0,r1,r6,r7,r8,e1,hg1,WB]
   rw[← ht]
   exact .mk (by rw[Qa.next_set];omega) ⟨rfl,done _⟩
theorem QaG (of q:Nat):∀ (l:List UInt8) (prev:Bool) (pos acc:Nat),ZE of l prev (pos+q) acc=(match ZE of l prev pos acc with | .inl p=>.inl (p+q) | .inr a=>.inr a)
 | [],_,_,_=>rfl
 | c::l,prev,pos,acc=>by
  rw[ZE,ZE]
  cases h1:c==95 with
  | true=>
   rw[cond_true,cond_true]
   cases h2:(prev||l.isEmpty) with
   | true=>rfl
   | false=>rw[cond_false,cond_false,show pos+q+1=pos+1+q by omega];exact QaG of q l _ _ _
  | false=>
   rw[cond_false,cond_false]
   cases h2:Nat.blt (YE c.toNat) of with
   | true=>rw[cond_true,cond_true,show pos+q+1=pos+1+q by omega];exact QaG of q l _ _ _
   | false=>rfl
theorem Qpm {c:UInt8} (h39:(c==39)=false):(decide ((c.toNat:Int)<48)||decide ((57:Int)<(c.toNat:Int)))=Nat.blt 9 (YE c.toNat):=by
 have hl:c.toNat<256:=c.toNat_lt
 have h:∀n,n<256→(decide (n<48)||decide (57<n))=Nat.blt 9 (YE n):=by
  have hk:((List.range 256).all fun n=>(decide (n<48)||decide (57<n))==Nat.blt 9 (YE n))=true:=by kernel_rfl
  intro n hn
  exact beq_iff_eq.1 (List.all_eq_true.1 hk n (List.mem_range.2 hn))
 rw[← h _ hl]
 congr 1
 ·simp only[decide_eq_decide];omega
 ·simp only[decide_eq_decide];omega
theorem QeE (s:List UInt8) (hl:s.length≤1000000) (a:Nat) (ha:a≤1000000) (H:Qa):Qf prog KP [.string (mkS s),.int .i64 (a:Int)] H fun u H'=>u=(WR s a).val∧Ext H H':=by
 refine Qdx fun hw=>?_
 have ea:decide ((a:Int)<0)=false:=decide_eq_false (by omega)
 simp only[VZ,sxA,sxB,Nat.reduceBEq,Nat.reduceEqDiff,reduceCtorEq,mxA,mxB,Nat.reduceAdd,reduceIte,Nat.reduceLeDiff,splice,ea,GJ,Qe,Qg]
 generalize hE:H.push _=H1
 have hR0:∃e,H1=H.push (.cells [.int .i64 0,.int .i64 0] e false):=⟨_,hE.symm⟩
 obtain⟨e,h1⟩:=hR0
 clear hE
 have hx1:Ext H H1:=by rw[h1];exact(Ext.refl H).push _
 have hg1:H1.get H.next=some (.cells [.int .i64 0,.int .i64 0] e false):=by rw[h1,Qa.get_push,if_pos rfl]
 have hw1:H1.Wf:=by rw[h1];exact hw.push _
 have hlt:H.next<H1.next:=by rw[h1,Qa.next_push];omega
 clear h1
 have hnn:=hx1.next
 have done:∀c,Ext H (H1.set H.next (.cells c e false)):=fun c=>hx1.set (Nat.le_refl _) _
 by_cases hal:a<s.length
 ·have e1:decide ((s.length:Int)≤(a:Int))=false:=decide_eq_false (by omega)
  have hp:=List.getElem?_eq_getElem hal
  have t0:(0:Int)≤(a:Int):=Int.natCast_nonneg _
  have u0:(a:Int).toNat=a:=Int.toNat_natCast _
  have hds:s.drop a=s[a]::s.drop (a+1):=List.drop_eq_getElem_cons hal
  unfold WR
  rw[hds]
  generalize s[a]=c at *
  have e39:((c.toNat:Int)==39)=(c==39):=QiY c 39 (by decide)
  simp only[sxA,sxB,Nat.reduceBEq,Nat.reduceEqDiff,reduceCtorEq,mxA,mxB,Nat.reduceAdd,reduceIte,Nat.reduceLeDiff,splice,e1,Qe,Qk,Qg,t0,u0,hp,e39]
  cases hc:c==39 with
  | true=>
   simp only[Ym,sxA,sxB,Nat.reduceBEq,Nat.reduceEqDiff,reduceCtorEq,mxA,mxB,Nat.reduceAdd,reduceIte,Nat.reduceLeDiff,splice,Qk,Qg,t0,u0,hp,e39,hc]
   refine(QeD s hl a hal H1).thenW ?_
   rintro _ H2 _ hw2 ⟨rfl,hx2⟩
   have hg2:H2.get H.next=some (.cells [.int .i64 0,.int .i64 0] e false):=by rw[hx2.get _ hlt];exact hg1
   have hn2:=hx2.next
   generalize QaF (s.drop (a+1)) (a+1) 0 0=R
   simp only[sxA,sxB,Nat.reduceBEq,Nat.reduceEqDiff,reduceCtorEq,mxA,mxB,Nat.reduceAdd,reduceIte,Nat.reduceLeDiff,splice,Sc.val,Qoy,hg2,QX]
   exact .mk (by rw[Qa.next_set];omega) ⟨rfl,(hx1.trans hx2).set (Nat.le_refl _) _⟩
  | false=>
   have f9:=Qpm hc
   have tail:∀A:Env,A 0=.string (mkS s)→A 1=.int .i64 a→A 6=.pointer (some ⟨H.next,0,none⟩)→Nat.blt 9 (YE c.toNat)=false→Qw prog Ym ⟨Rt prog Ga H fun u H'=>u=(Sc.val (match QeA ((c::s.drop (a+1)).takeWhile fun b=>Jy b.toNat) with | .inl (e,p)=>⟨0,0,e,((p+a:Nat):Int)⟩ | .inr n=>⟨IntKind.i64.wrap n,((a+((c::s.drop (a+1)).takeWhile fun b=>Jy b.toNat).length:Nat):Int),0,0⟩))∧Ext H H',Qa0⟩ (Rt prog Ga H fun u H'=>u=(Sc.val (match QeA ((c::s.drop (a+1)).takeWhile fun b=>Jy b.toNat) with | .inl (e,p)=>⟨0,0,e,((p+a:Nat):Int)⟩ | .inr n=>⟨IntKind.i64.wrap n,((a+((c::s.drop (a+1)).takeWhile fun b=>Jy b.toNat).length:Nat):Int),0,0⟩))∧Ext H H') A H1:=fun A q0 q1 q6 h9=>by
    have hwc:Jy c.toNat=true:=by
     have:¬9<YE c.toNat:=by rw[Z6]at h9;exact of_decide_eq_false h9
     unfold Jy
     have:Nat.blt (YE c.toNat) 99=true:=by rw[Z6];exact decide_eq_true (by omega)
     rw[this,Bool.or_true]
    simp only[Ym,GI,sxA,sxB,Nat.reduceBEq,Nat.reduceEqDiff,reduceCtorEq,mxA,mxB,Nat.reduceAdd,reduceIte,Nat.reduceLeDiff,splice,Qk,Qg,q0,q1,t0,u0,hp,e39,hc]
    have hW0:(c::s.drop (a+1)).takeWhile (fun b=>Jy b.toNat)≠[]:=by rw[List.takeWhile_cons,if_pos hwc];simp
    generalize hW:(c::s.drop (a+1)).takeWhile (fun b=>Jy b.toNat)=W at *
    rw[← hds]at hW
    refine QC (fun m A' H'=>∃ (j:Nat),m=s.length - j∧H'=H1∧a≤j∧j≤s.length∧W=(s.drop a).take (j - a)++(s.drop j).takeWhile (fun b=>Jy b.toNat)∧A' 0=.string (mkS s)∧A' 1=.int .i64 a∧A' 6=.pointer (some ⟨H.next,0,none⟩)∧A' 7=.int .i64 j) (s.length - a) ?_ ?_
    ·refine⟨a,rfl,rfl,Nat.le_refl _,by omega,by rw[Nat.sub_self,List.take_zero,List.nil_append,hW],?_,?_,?_,?_⟩
     all_goals simp only[uxA,uxB,Nat.reduceBEq,q0,q1,q6]
    ·rintro m A' H' ⟨j,rfl,hEq,haj,hjl,hWj,r0,r1,r6,r7⟩
     subst hEq
     have fin:∀ (ks:Kp) (k:Env→Qa→Prop) (A2:Env),A2 0=.string (mkS s)→A2 1=.int .i64 a→A2 6=.pointer (some ⟨H.next,0,none⟩)→A2 7=.int .i64 j→ks.ret=(Rt prog Ga H fun u H'=>u=(Sc.val (match QeA W with | .inl (e,p)=>⟨0,0,e,((p+a:Nat):Int)⟩ | .inr n=>⟨IntKind.i64.wrap n,((a+W.length:Nat):Int),0,0⟩))∧Ext H H')→(s.drop j).takeWhile (fun b=>Jy b.toNat)=[]→Qw prog ZT ks k A2 H':=fun ks k A2 q0 q1 q6 q7 hks hnil=>by
      rw[hnil,List.append_nil]at hWj
      have hWl:W.length=j - a:=by rw[hWj,List.length_take,List.length_drop];omega
      obtain⟨hft,htl,hof⟩:=QlV hW0
      simp only[ZT,sxA,sxB,Nat.reduceBEq,Nat.reduceEqDiff,reduceCtorEq,mxA,mxB,Nat.reduceAdd,reduceIte,Nat.reduceLeDiff,splice,q0,q1,q6,q7]
      rw[Qjt (s:=mkS s) (l:=a) (h:=j) (ik:=.i64) (ik':=.i64) (by kernel_rfl) (by simp only[uxA,uxB,Nat.reduceBEq,q0]) (by simp only[uxA,uxB,Nat.reduceBEq,q1]) (by simp only[uxA,uxB,Nat.reduceBEq]) haj (by rw[Qg];omega)]
      rw[Qg,← hWj]
      simp only[sxA,sxB,Nat.reduceBEq,Nat.reduceEqDiff,reduceCtorEq,mxA,mxB,Nat.reduceAdd,reduceIte,Nat.reduceLeDiff,splice]
      refine(QdA W hW0 (by omega) H').thenW ?_
      rintro _ H3 _ hw3 ⟨rfl,rfl⟩
      have hN:QeA W=(match ZE (Wh W).1 ((W.take (Wh W).2.2).drop (Wh W).2.1) true (0+(Wh W).2.1) 0 with | .inl p=>.inl (4,p) | .inr acc=>bif ((W.take (Wh W).2.2).drop (Wh W).2.1).isEmpty then .inl (4,(Wh W).2.2) else bif Nat.ble 18446744073709551616 acc then .inl (5,0) else .inr acc):=by rw[Nat.zero_add];rfl
      rw[QaG]at hN
      rw[hN]at hks
      generalize Wh W=bb at *
      obtain⟨of,fr,to⟩:=bb
      simp only at hft htl hof hks
      have ef:IntKind.i64.wrap ((a:Int)+(fr:Int))=((a+fr:Nat):Int):=by rw[w64 (by unfold I64;omega)];omega
      have et:IntKind.i64.wrap ((a:Int)+(to:Int))=((a+to:Nat):Int):=by rw[w64 (by unfold I64;omega)];omega
      simp only[sxA,sxB,Nat.reduceBEq,Nat.reduceEqDiff,reduceCtorEq,mxA,mxB,Nat.reduceAdd,reduceIte,Nat.reduceLeDiff,splice,q0,q1,q6,q7,ef,et]
      rw[Qjt (s:=mkS s) (l:=a+fr) (h:=a+to) (ik:=.i64) (ik':=.i64) (by kernel_rfl) (by simp only[uxA,uxB,Nat.reduceBEq,q0]) (by simp only[uxA,uxB,Nat.reduceBEq]) (by simp only[uxA,uxB,Nat.reduceBEq]) (by omega) (by rw[Qg];omega)]
      have hD:((s.drop (a+fr)).take (a+to - (a+fr)))=(W.take to).drop fr:=by
       rw[hWj,List.take_take,List.drop_take,List.drop_drop]
       congr 1
       omega
      rw[Qg,hD]
      generalize hDD:(W.take to).drop fr=D at *
      have hDl:D.length=to - fr:=by rw[← hDD,List.length_drop,List.length_take];omega
      simp only[sxA,sxB,Nat.reduceBEq,Nat.reduceEqDiff,reduceCtorEq,mxA,mxB,Nat.reduceAdd,reduceIte,Nat.reduceLeDiff,splice]
      refine(QcL D of hof (by omega) H3).thenW ?_
      rintro u H4 _ hw4 ⟨hu,rfl⟩
      have hem:D.isEmpty=decide (D=[]):=by cases D<;>rfl
      cases hdg:ZE of D true 0 0 with
      | inl p=>
       rw[hdg]at hu hks
       have hu:u=_:=hu
       have hpl:=QeC _ _ _ _ hdg
       subst hu
       have z0:decide ((0:Int)≤(p:Int))=true:=decide_eq_true (by omega)
       have z2:IntKind.i64.wrap (((a+fr:Nat):Int)+(p:Int))=((p+fr+a:Nat):Int):=by rw[w64 (by unfold I64;omega)];omega
       simp only[sxA,sxB,Nat.reduceBEq,Nat.reduceEqDiff,reduceCtorEq,mxA,mxB,Nat.reduceAdd,reduceIte,Nat.reduceLeDiff,splice,q0,q1,q6,q7,z0,z2,ef,hks,hg1,QX]
       exact .mk (by rw[Qa.next_set];omega) ⟨rfl,done _⟩
      | inr acc=>
       rw[hdg]at hu hks
       have hu:if D=[] then u=.tuple #[.int .u64 0,.int .i64 0,.bool false] else ∃n:Nat,n<18446744073709551616∧(acc<18446744073709551616→n=acc)∧u=.tuple #[.int .u64 (n:Int),.int .i64 (-1),.bool (decide (18446744073709551616≤acc))]:=hu
       by_cases hD0:D=[]
       ·rw[if_pos hD0]at hu
        subst hu
        have z0:decide ((0:Int)≤0)=true:=rfl
        have hft2:fr=to:=by rw[hD0]at hDl;simp at hDl;omega
        have z2:IntKind.i64.wrap (((a+fr:Nat):Int)+0)=((to+a:Nat):Int):=by rw[w64 (by unfold I64;omega)];omega
        simp only at hks
        rw[hem,decide_eq_true hD0,cond_true]at hks
        simp only[sxA,sxB,Nat.reduceBEq,Nat.reduceEqDiff,reduceCtorEq,mxA,mxB,Nat.reduceAdd,reduceIte,Nat.reduceLeDiff,splice,q0,q1,q6,q7,z0,z2,ef,hks,hg1,QX]
        exact .mk (by rw[Qa.next_set];omega) ⟨rfl,done _⟩
       ·rw[if_neg hD0]at hu
        obtain⟨n,hn,hna,rfl⟩:=hu
        have z0:decide ((0:Int)≤-1)=false:=rfl
        simp only at hks
        rw[hem,decide_eq_false hD0,cond_false]at hks
        simp only[GH,sxA,sxB,Nat.reduceBEq,Nat.reduceEqDiff,reduceCtorEq,mxA,mxB,Nat.reduceAdd,reduceIte,Nat.reduceLeDiff,splice,q0,q1,q6,q7,z0]
        by_cases hov:18446744073709551616≤acc
        ·have hb:Nat.ble 18446744073709551616 acc=true:=by simpa using hov
         rw[hb,cond_true]at hks
         simp only[sxA,sxB,Nat.reduceBEq,Nat.reduceEqDiff,reduceCtorEq,mxA,mxB,Nat.reduceAdd,reduceIte,Nat.reduceLeDiff,splice,q0,q1,q6,q7,decide_eq_true hov,hks,hg1,QX]
         exact .mk (by rw[Qa.next_set];omega) ⟨rfl,done _⟩
        ·have hb:Nat.ble 18446744073709551616 acc=false:=by cases h:Nat.ble 18446744073709551616 acc with | false=>rfl | true=>exact absurd (Nat.le_of_ble_eq_true h) hov
         rw[hb,cond_false]at hks
         have hn2:=hna (by omega)
         subst hn2
         simp only[sxA,sxB,Nat.reduceBEq,Nat.reduceEqDiff,reduceCtorEq,mxA,mxB,Nat.reduceAdd,reduceIte,Nat.reduceLeDiff,splice,q0,q1,q6,q7,decide_eq_false hov,hks,hg1,QX]
         exact .mk (by rw[Qa.next_set];omega) ⟨by rw[hWl,show a+(j - a)=j by omega];rfl,done _⟩
     by_cases hj:j<s.length
     ·have e2:decide ((j:Int)<(s.length:Int))=true:=decide_eq_true (by omega)
      have hp2:=List.getElem?_eq_getElem hj
      have t2:(0:Int)≤(j:Int):=Int.natCast_nonneg _
      have u2:(j:Int).toNat=j:=Int.toNat_natCast _
      have hd2:s.drop j=s[j]::s.drop (j+1):=List.drop_eq_getElem_cons hj
      have htk:(s.drop a).take (j+1 - a)=(s.drop a).take (j - a)++[s[j]]:=by
       rw[show j+1 - a=(j - a)+1 by omega,List.take_add_one,List.getElem?_drop,show a+(j - a)=j by omega,hp2];rfl
      generalize s[j]=c2 at *
      have ej:IntKind.i64.wrap ((j:Int)+1)=((j+1:Nat):Int):=by rw[w64 (by unfold I64;omega)];rfl
      simp only[ZU,sxA,sxB,Nat.reduceBEq,Nat.reduceEqDiff,reduceCtorEq,mxA,mxB,Nat.reduceAdd,reduceIte,Nat.reduceLeDiff,splice,Qe,Qk,Qg,r0,r1,r6,r7,e2,t2,u2,hp2]
      refine(QcI c2.toNat c2.toNat_lt H').thenW ?_
      rintro _ H3 _ hw3 ⟨rfl,rfl⟩
      cases hw2:Jy c2.toNat with
      | true=>
       simp only[sxA,sxB,Nat.reduceBEq,Nat.reduceEqDiff,reduceCtorEq,mxA,mxB,Nat.reduceAdd,reduceIte,Nat.reduceLeDiff,splice,r7,ej]
       refine⟨s.length - (j+1),by omega,j+1,rfl,rfl,by omega,by omega,?_,?_,?_,?_,?_⟩
       ·rw[hWj,htk,hd2,List.takeWhile_cons,if_pos hw2,List.append_assoc];rfl
       all_goals simp only[uxA,uxB,Nat.reduceBEq,r0,r1,r6]
      | false=>
       simp only[sxA,sxB,Nat.reduceBEq,Nat.reduceEqDiff,reduceCtorEq,mxA,mxB,Nat.reduceAdd,reduceIte,Nat.reduceLeDiff,splice]
       refine fin _ _ _ ?_ ?_ ?_ ?_ rfl (Qkw fun c r hcr=>by rw[hd2]at hcr;cases hcr;exact hw2)
       all_goals simp only[uxA,uxB,Nat.reduceBEq,r0,r1,r6,r7]
     ·have e2:decide ((j:Int)<(s.length:Int))=false:=decide_eq_false (by omega)
      simp only[ZU,sxA,sxB,Nat.reduceBEq,Nat.reduceEqDiff,reduceCtorEq,mxA,mxB,Nat.reduceAdd,reduceIte,Nat.reduceLeDiff,splice,Qe,Qg,r0,r1,r6,r7,e2]
      refine fin _ _ _ ?_ ?_ ?_ ?_ rfl (by rw[List.drop_eq_nil_of_le (by omega)];rfl)
      all_goals simp only[uxA,uxB,Nat.reduceBEq,r0,r1,r6,r7]
   simp only[sxA,sxB,Nat.reduceBEq,Nat.reduceEqDiff,reduceCtorEq,mxA,mxB,Nat.reduceAdd,reduceIte,Nat.reduceLeDiff,splice,Qk,Qg,t0,u0,hp]
   cases h48:decide ((c.toNat:Int)<48) with
   | true=>
    rw[h48,Bool.true_or]at f9
    rw[← f9]
    simp only[sxA,sxB,Nat.reduceBEq,Nat.reduceEqDiff,reduceCtorEq,mxA,mxB,Nat.reduceAdd,reduceIte,Nat.reduceLeDiff,splice,hg1,QX]
    exact .mk (by rw[Qa.next_set];omega) ⟨rfl,done _⟩
   | false=>
    rw[h48,Bool.false_or]at f9
    simp only[sxA,sxB,Nat.reduceBEq,Nat.reduceEqDiff,reduceCtorEq,mxA,mxB,Nat.reduceAdd,reduceIte,Nat.reduceLeDiff,splice,Qk,Qg,t0,u0,hp,f9]
    cases h9:Nat.blt 9 (YE c.toNat) with
    | true=>
     simp only[sxA,sxB,Nat.reduceBEq,Nat.reduceEqDiff,reduceCtorEq,mxA,mxB,Nat.reduceAdd,reduceIte,Nat.reduceLeDiff,splice,hg1,QX]
     exact .mk (by rw[Qa.next_set];omega) ⟨rfl,done _⟩
    | false=>
     simp only[sxA,sxB,Nat.reduceBEq,Nat.reduceEqDiff,reduceCtorEq,mxA,mxB,Nat.reduceAdd,reduceIte,Nat.reduceLeDiff,splice]
     refine tail _ ?_ ?_ ?_ h9
     all_goals simp only[uxA,uxB,Nat.reduceBEq]
 ·have e1:decide ((s.length:Int)≤(a:Int))=true:=decide_eq_true (by omega)
  have hds:s.drop a=[]:=List.drop_eq_nil_of_le (by omega)
  unfold WR
  rw[hds]
  simp only[sxA,sxB,Nat.reduceBEq,Nat.reduceEqDiff,reduceCtorEq,mxA,mxB,Nat.reduceAdd,reduceIte,Nat.reduceLeDiff,splice,e1,hg1,QX]
  exact .mk (by rw[Qa.next_set];omega) ⟨rfl,done _⟩
def QiZ:List Value:=[.int .u64 1,.int .u64 10,.int .u64 100,.int .u64 1000,.int .u64 10000,.int .u64 100000,.int .u64 1000000,.int .u64 10000000,.int .u64 100000000,.int .u64 1000000000,.int .u64 10000000000,.int .u64 100000000000,.int .u64 1000000000000,.int .u64 10000000000000,.int .u64 100000000000000,.int .u64 1000000000000000,.int .u64 10000000000000000,.int .u64 100000000000000000,.int .u64 1000000000000000000,.int .u64 10000000000000000000]
def Qoz (T:Qa→Prop):Prop:=∀H,T H→∃e ro,H.get QL=some (.cells QiZ e ro)
theorem Qnt (n:Nat) (hn:n<100) (H:Qa):Qf prog Wj [.int .i64 (n:Int)] H fun u H'=>u=.string (mkS (dgs 10 n))∧H'=H:=by
 have h:((List.range 100).all fun n=>QjA Wj [.int .i64 (n:Int)] (.string (mkS (if n<10 then[Qs n] else[Qs (n / 10),Qs (n % 10)]))))=true:=by kernel_rfl
 have e:dgs 10 n=if n<10 then[Qs n] else[Qs (n / 10),Qs (n % 10)]:=by
  split
  ·rw[Gg (by omega)]
  ·rw[QaD (by omega) (by decide),Gg (by omega)];rfl
 rw[e]
 exact Vt (by kernel_rfl) rfl rfl (List.all_eq_true.1 h n (List.mem_range.2 hn)) H
theorem QoA (x:Nat) (hx:x<256):∃b:UInt8,([0,1,2,2,3,3,3,3,4,4,4,4,4,4,4,4,5,5,5,5,5,5,5,5,5,5,5,5,5,5,5,5,6,6,6,6,6,6,6,6,6,6,6,6,6,6,6,6,6,6,6,6,6,6,6,6,6,6,6,6,6,6,6,6,7,7,7,7,7,7,7,7,7,7,7,7,7,7,7,7,7,7,7,7,7,7,7,7,7,7,7,7,7,7,7,7,7,7,7,7,7,7,7,7,7,7,7,7,7,7,7,7,7,7,7,7,7,7,7,7,7,7,7,7,7,7,7,7,8,8,8,8,8,8,8,8,8,8,8,8,8,8,8,8,8,8,8,8,8,8,8,8,8,8,8,8,8,8,8,8,8,8,8,8,8,8,8,8,8,8,8,8,8,8,8,8,8,8,8,8,8,8,8,8,8,8,8,8,8,8,8,8,8,8,8,8,8,8,8,8,8,8,8,8,8,8,8,8,8,8,8,8,8,8,8,8,8,8,8,8,8,8,8,8,8,8,8,8,8,8,8,8,8,8,8,8,8,8,8,8,8,8,8,8,8,8,8,8,8,8,8,8,8,8,8,8]:List UInt8)[x]? = some b∧(1≤x→1≤b.toNat)∧b.toNat≤8∧(1≤x→2 ^ (b.toNat - 1)≤x)∧x<2 ^ b.toNat:=by
 have h:((List.range 256).all fun x=>match ([0,1,2,2,3,3,3,3,4,4,4,4,4,4,4,4,5,5,5,5,5,5,5,5,5,5,5,5,5,5,5,5,6,6,6,6,6,6,6,6,6,6,6,6,6,6,6,6,6,6,6,6,6,6,6,6,6,6,6,6,6,6,6,6,7,7,7,7,7,7,7,7,7,7,7,7,7,7,7,7,7,7,7,7,7,7,7,7,7,7,7,7,7,7,7,7,7,7,7,7,7,7,7,7,7,7,7,7,7,7,7,7,7,7,7,7,7,7,7,7,7,7,7,7,7,7,7,7,8,8,8,8,8,8,8,8,8,8,8,8,8,8,8,8,8,8,8,8,8,8,8,8,8,8,8,8,8,8,8,8,8,8,8,8,8,8,8,8,8,8,8,8,8,8,8,8,8,8,8,8,8,8,8,8,8,8,8,8,8,8,8,8,8,8,8,8,8,8,8,8,8,8,8,8,8,8,8,8,8,8,8,8,8,8,8,8,8,8,8,8,8,8,8,8,8,8,8,8,8,8,8,8,8,8,8,8,8,8,8,8,8,8,8,8,8,8,8,8,8,8,8,8,8,8,8,8]:List UInt8)[x]? with | some b=>(Nat.beq x 0||Nat.ble 1 b.toNat)&&Nat.ble b.toNat 8&&(Nat.beq x 0||Nat.ble (2 ^ (b.toNat - 1)) x)&&Nat.blt x (2 ^ b.toNat) | none=>false)=true:=by kernel_rfl
 have h1:=List.all_eq_true.1 h x (List.mem_range.2 hx)
 split at h1
 ·rename_i b hb
  simp only[Bool.and_eq_true,Bool.or_eq_true,Nat.beq_eq,Nat.ble_eq,Nat.blt_eq]at h1
  exact⟨b,hb,fun h=>by omega,h1.1.1.2,fun h=>by omega,h1.2⟩
 ·cases h1
theorem Qo6 (u k:Nat) (hk:k≤64):(u:Int).fdiv (2 ^ (min (k:Int).toNat IntKind.u64.bits))=((u / 2 ^ k:Nat):Int):=by
 have hb:IntKind.u64.bits=64:=rfl
 have e:(2:Int) ^ (min (k:Int).toNat IntKind.u64.bits)=((2 ^ k:Nat):Int):=by
  rw[Int.toNat_natCast,hb,Nat.min_eq_left hk];simp
 rw[e,Int.fdiv_eq_ediv_of_nonneg _ (Int.natCast_nonneg _)]
 rfl
theorem Qnu (u:Nat) (h1:1≤u) (h2:u<1048577) (H:Qa):Qf prog ZR [.int .u64 (u:Int)] H fun v H'=>(∃L:Nat,v=.int .i64 (L:Int)∧1≤L∧L≤21∧2 ^ (L - 1)≤u∧u<2 ^ L)∧H'=H:=by
 refine QbC fun hw=>?_
 have e0:decide ((4294967296:Int)≤(u:Int))=false:=decide_eq_false (by omega)
 have t16:(0:Int)≤16:=by decide
 have t8:(0:Int)≤8:=by decide
 have s16:∀x:Nat,(x:Int).fdiv (2 ^ (min (16:Int).toNat IntKind.u64.bits))=((x / 65536:Nat):Int):=fun x=>Qo6 x 16 (by decide)
 have s8:∀x:Nat,(x:Int).fdiv (2 ^ (min (8:Int).toNat IntKind.u64.bits))=((x / 256:Nat):Int):=fun x=>Qo6 x 8 (by decide)
 rcases Nat.lt_or_ge u 65536 with hu | hu
 ·have e1:decide ((65536:Int)≤(u:Int))=false:=decide_eq_false (by omega)
  rcases Nat.lt_or_ge u 256 with hv | hv
  ·have e2:decide ((256:Int)≤(u:Int))=false:=decide_eq_false (by omega)
   obtain⟨b,hb,hb1,hb8,hb2,hb3⟩:=QoA u hv
   have w1:IntKind.u8.wrap (u:Int)=(u:Int):=by rw[IntKind.wrap_u8];omega
   have t0:(0:Int)≤(u:Int):=Int.natCast_nonneg _
   have u0:(u:Int).toNat=u:=Int.toNat_natCast _
   simp only[XW,Xg,Xf,sxA,sxB,Nat.reduceBEq,Nat.reduceEqDiff,reduceCtorEq,mxA,mxB,Nat.reduceAdd,reduceIte,Nat.reduceLeDiff,splice,e0,e1,e2,w1,Qk,Qg,t0,u0,YS]
   refine⟨b,(by dsimp only at hb;exact hb),.mk (Nat.le_refl _) ⟨⟨b.toNat,?_,hb1 h1,by omega,hb2 h1,hb3⟩,rfl⟩⟩
   rw[w64 (n:=((b.toNat:Nat):Int)) (by unfold I64;omega),w64 (by unfold I64;omega)];simp
  ·have e2:decide ((256:Int)≤(u:Int))=true:=decide_eq_true (by omega)
   have hx:u / 256<256:=by omega
   obtain⟨b,hb,hb1,hb8,hb2,hb3⟩:=QoA (u / 256) hx
   have w1:IntKind.u8.wrap ((u / 256:Nat):Int)=((u / 256:Nat):Int):=by rw[IntKind.wrap_u8];omega
   have t0:(0:Int)≤((u / 256:Nat):Int):=Int.natCast_nonneg _
   have u0:((u / 256:Nat):Int).toNat=u / 256:=Int.toNat_natCast _
   simp only[XW,Xg,Xf,sxA,sxB,Nat.reduceBEq,Nat.reduceEqDiff,reduceCtorEq,mxA,mxB,Nat.reduceAdd,reduceIte,Nat.reduceLeDiff,splice,e0,e1,e2,t8,s8,w1,Qk,Qg,t0,u0,show IntKind.i64.wrap (0+8)=8 from rfl,YS]
   have p1:2 ^ (b.toNat - 1+8)≤u:=by rw[Nat.pow_add];have:=hb2 (by omega);omega
   have p2:u<2 ^ (b.toNat+8):=by rw[Nat.pow_add];omega
   have hb0:=hb1 (by omega)
   refine⟨b,(by dsimp only at hb;exact hb),.mk (Nat.le_refl _) ⟨⟨b.toNat+8,?_,by omega,by omega,by rw[show b.toNat+8 - 1=b.toNat - 1+8 by omega];exact p1,p2⟩,rfl⟩⟩
   rw[w64 (n:=((b.toNat:Nat):Int)) (by unfold I64;omega),w64 (by unfold I64;omega)];congr 1;omega
 ·have e1:decide ((65536:Int)≤(u:Int))=true:=decide_eq_true (by omega)
  have e2:decide ((256:Int)≤((u / 65536:Nat):Int))=false:=decide_eq_false (by omega)
  have hx:u / 65536<256:=by omega
  obtain⟨b,hb,hb1,hb8,hb2,hb3⟩:=QoA (u / 65536) hx
  have w1:IntKind.u8.wrap ((u / 65536:Nat):Int)=((u / 65536:Nat):Int):=by rw[IntKind.wrap_u8];omega
  have t0:(0:Int)≤((u / 65536:Nat):Int):=Int.natCast_nonneg _
  have u0:((u / 65536:Nat):Int).toNat=u / 65536:=Int.toNat_natCast _
  simp only[XW,Xg,Xf,sxA,sxB,Nat.reduceBEq,Nat.reduceEqDiff,reduceCtorEq,mxA,mxB,Nat.reduceAdd,reduceIte,Nat.reduceLeDiff,splice,e0,e1,e2,t16,s16,w1,Qk,Qg,t0,u0,show IntKind.i64.wrap (0+16)=16 from rfl,YS]
  have p1:2 ^ (b.toNat - 1+16)≤u:=by rw[Nat.pow_add];have:=hb2 (by omega);omega
  have p2:u<2 ^ (b.toNat+16):=by rw[Nat.pow_add];omega
  have hb0:=hb1 (by omega)
  have hb5:b.toNat≤5:=by
   rcases Nat.lt_or_ge b.toNat 6 with h | h
   ·omega
   ·have:2 ^ 21≤2 ^ (b.toNat - 1+16):=Nat.pow_le_pow_right (by decide) (by omega)
    omega
  refine⟨b,(by dsimp only at hb;exact hb),.mk (Nat.le_refl _) ⟨⟨b.toNat+16,?_,by omega,by omega,by rw[show b.toNat+16 - 1=b.toNat - 1+16 by omega];exact p1,p2⟩,rfl⟩⟩
  rw[w64 (n:=((b.toNat:Nat):Int)) (by unfold I64;omega),w64 (by unfold I64;omega)];congr 1;omega
theorem Qo7 (L:Nat) (hL:L≤21):IntKind.i64.wrap ((L:Int) * 78913)=((L * 78913:Nat):Int)∧((L * 78913:Nat):Int).fdiv (2 ^ (min (18:Int).toNat IntKind.i64.bits))=((L * 78913 / 262144:Nat):Int):=by
 refine⟨by rw[w64 (by unfold I64;omega)];omega,?_⟩
 have e:(2:Int) ^ (min (18:Int).toNat IntKind.i64.bits)=((262144:Nat):Int):=rfl
 rw[e,Int.fdiv_eq_ediv_of_nonneg _ (Int.natCast_nonneg _)]
 rfl
theorem QhH {T:Qa→Prop} (hP:Qoz T) (u:Nat) (h1:100≤u) (h2:u<1048577) (H:Qa) (hT:T H):Qf prog QQ [.int .u64 (u:Int)] H fun v H'=>(∃n:Nat,v=.int .i64 (n:Int)∧3≤n∧n≤7∧10 ^ (n - 1)≤u∧u<10 ^ n)∧H'=H:=by
 refine JZ fun hw=>?_
 simp only[XM,sxA,sxB,Nat.reduceBEq,Nat.reduceEqDiff,reduceCtorEq,mxA,mxB,Nat.reduceAdd,reduceIte,Nat.reduceLeDiff,splice]
 refine(Qnu u (by omega) h2 H).thenW ?_
 rintro _ H1 _ hw1 ⟨⟨L,rfl,hL1,hL21,hLa,hLb⟩,rfl⟩
 simp only[sxA,sxB,Nat.reduceBEq,Nat.reduceEqDiff,reduceCtorEq,mxA,mxB,Nat.reduceAdd,reduceIte,Nat.reduceLeDiff,splice]
 have hlog:Qf prog Ws [.int .i64 (L:Int)] H1 fun v H'=>v=.int .i64 ((L * 78913 / 262144:Nat):Int)∧H'=H1:=by
  refine J3 fun hw=>?_
  obtain⟨g1,g2⟩:=Qo7 L hL21
  have t0:(0:Int)≤18:=by decide
  simp only[XO,sxA,sxB,Nat.reduceBEq,Nat.reduceEqDiff,reduceCtorEq,mxA,mxB,Nat.reduceAdd,reduceIte,Nat.reduceLeDiff,splice,g1,g2,t0,JM]
  exact .mk (Nat.le_refl _) ⟨rfl,rfl⟩
 refine hlog.thenW ?_
 rintro _ H2 _ hw2 ⟨rfl,rfl⟩
 obtain⟨e,ro,hg⟩:=hP H2 hT
 have hb2:∀b:Bool,Qf prog X1 [.bool b] H2 fun v H'=>v=.int .i64 (if b then 1 else 0)∧H'=H2:=fun b=>by
  cases b
  ·exact Vt (by kernel_rfl) rfl rfl (by kernel_rfl) H2
  ·exact Vt (by kernel_rfl) rfl rfl (by kernel_rfl) H2
 have hn:∃n p:Nat,L * 78913 / 262144=n∧n<20∧QiZ[n]? = some (.int .u64 (p:Int))∧3≤n+(if p≤u then 1 else 0)∧n+(if p≤u then 1 else 0)≤7∧10 ^ (n+(if p≤u then 1 else 0) - 1)≤u∧u<10 ^ (n+(if p≤u then 1 else 0)):=by
  have h7:7≤L:=by
   rcases Nat.lt_or_ge L 7 with h | h
   ·have:2 ^ L≤2 ^ 6:=Nat.pow_le_pow_right (by decide) (by omega)
    omega
   ·exact h
  rcases Nat.lt_or_ge L 10 with hA | hA
  ·refine⟨2,100,by omega,by decide,rfl,?_⟩
   have:2 ^ L≤2 ^ 9:=Nat.pow_le_pow_right (by decide) (by omega)
   rw[if_pos (by omega)];omega
  ·rcases Nat.lt_or_ge L 14 with hB | hB
   ·refine⟨3,1000,by omega,by decide,rfl,?_⟩
    have:2 ^ L≤2 ^ 13:=Nat.pow_le_pow_right (by decide) (by omega)
    have:2 ^ 9≤2 ^ (L - 1):=Nat.pow_le_pow_right (by decide) (by omega)
    split<;>omega
   ·rcases Nat.lt_or_ge L 17 with hC | hC
    ·refine⟨4,10000,by omega,by decide,rfl,?_⟩
     have:2 ^ L≤2 ^ 16:=Nat.pow_le_pow_right (by decide) (by omega)
     have:2 ^ 13≤2 ^ (L - 1):=Nat.pow_le_pow_right (by decide) (by omega)
     split<;>omega
    ·rcases Nat.lt_or_ge L 20 with hD | hD
     ·refine⟨5,100000,by omega,by decide,rfl,?_⟩
      have:2 ^ L≤2 ^ 19:=Nat.pow_le_pow_right (by decide) (by omega)
      have:2 ^ 16≤2 ^ (L - 1):=Nat.pow_le_pow_right (by decide) (by omega)
      split<;>omega
     ·refine⟨6,1000000,by omega,by decide,rfl,?_⟩
      have:2 ^ 19≤2 ^ (L - 1):=Nat.pow_le_pow_right (by decide) (by omega)
      split<;>omega
 obtain⟨n,p,hLn,hn20,hp,r1,r2,r3,r4⟩:=hn
 rw[hLn]
 simp only[sxA,sxB,Nat.reduceBEq,Nat.reduceEqDiff,reduceCtorEq,mxA,mxB,Nat.reduceAdd,reduceIte,Nat.reduceLeDiff,splice]
 rw[QcG (n:=20) (size:=1) (b:=QL) (o:=0) (i:=n) (ik:=.i64) (by kernel_rfl) (by simp only[QfG]) (by simp only[uxA,uxB,Nat.reduceBEq]) hn20]
 simp only[sxA,sxB,Nat.reduceBEq,Nat.reduceEqDiff,reduceCtorEq,mxA,mxB,Nat.reduceAdd,reduceIte,Nat.reduceLeDiff,splice,hg,hp]
 refine(hb2 _).thenW ?_
 rintro _ H3 _ hw3 ⟨rfl,rfl⟩
 have ew:IntKind.i64.wrap ((n:Int)+(if decide ((p:Int)≤(u:Int))=true then 1 else 0))=((n+(if p≤u then 1 else 0):Nat):Int):=by
  by_cases h:p≤u
  ·have hd:decide ((p:Int)≤(u:Int))=true:=decide_eq_true (by omega)
   rw[if_pos h,if_pos hd,w64 (by unfold I64;omega)];omega
  ·have hd:¬decide ((p:Int)≤(u:Int))=true:=by simp;omega
   rw[if_neg h,if_neg hd,w64 (by unfold I64;omega)];omega
 simp only[sxA,sxB,Nat.reduceBEq,Nat.reduceEqDiff,reduceCtorEq,mxA,mxB,Nat.reduceAdd,reduceIte,Nat.reduceLeDiff,splice,ew,JK]
 exact .mk (Nat.le_refl _) ⟨⟨_,rfl,r1,r2,r3,r4⟩,rfl⟩
theorem QcM (r:Nat) (hr:r<100):([48,48,48,49,48,50,48,51,48,52,48,53,48,54,48,55,48,56,48,57,49,48,49,49,49,50,49,51,49,52,49,53,49,54,49,55,49,56,49,57,50,48,50,49,50,50,50,51,50,52,50,53,50,54,50,55,50,56,50,57,51,48,51,49,51,50,51,51,51,52,51,53,51,54,51,55,51,56,51,57,52,48,52,49,52,50,52,51,52,52,52,53,52,54,52,55,52,56,52,57,53,48,53,49,53,50,53,51,53,52,53,53,53,54,53,55,53,56,53,57,54,48,54,49,54,50,54,51,54,52,54,53,54,54,54,55,54,56,54,57,55,48,55,49,55,50,55,51,55,52,55,53,55,54,55,55,55,56,55,57,56,48,56,49,56,50,56,51,56,52,56,53,56,54,56,55,56,56,56,57,57,48,57,49,57,50,57,51,57,52,57,53,57,54,57,55,57,56,57,57]:List UInt8)[r * 2]? = some (Qs (r / 10))∧([48,48,48,49,48,50,48,51,48,52,48,53,48,54,48,55,48,56,48,57,49,48,49,49,49,50,49,51,49,52,49,53,49,54,49,55,49,56,49,57,50,48,50,49,50,50,50,51,50,52,50,53,50,54,50,55,50,56,50,57,51,48,51,49,51,50,51,51,51,52,51,53,51,54,51,55,51,56,51,57,52,48,52,49,52,50,52,51,52,52,52,53,52,54,52,55,52,56,52,57,53,48,53,49,53,50,53,51,53,52,53,53,53,54,53,55,53,56,53,57,54,48,54,49,54,50,54,51,54,52,54,53,54,54,54,55,54,56,54,57,55,48,55,49,55,50,55,51,55,52,55,53,55,54,55,55,55,56,55,57,56,48,56,49,56,50,56,51,56,52,56,53,56,54,56,55,56,56,56,57,57,48,57,49,57,50,57,51,57,52,57,53,57,54,57,55,57,56,57,57]:List UInt8)[r * 2+1]? = some (Qs (r % 10)):=by
 have h:∀r,r<100→([48,48,48,49,48,50,48,51,48,52,48,53,48,54,48,55,48,56,48,57,49,48,49,49,49,50,49,51,49,52,49,53,49,54,49,55,49,56,49,57,50,48,50,49,50,50,50,51,50,52,50,53,50,54,50,55,50,56,50,57,51,48,51,49,51,50,51,51,51,52,51,53,51,54,51,55,51,56,51,57,52,48,52,49,52,50,52,51,52,52,52,53,52,54,52,55,52,56,52,57,53,48,53,49,53,50,53,51,53,52,53,53,53,54,53,55,53,56,53,57,54,48,54,49,54,50,54,51,54,52,54,53,54,54,54,55,54,56,54,57,55,48,55,49,55,50,55,51,55,52,55,53,55,54,55,55,55,56,55,57,56,48,56,49,56,50,56,51,56,52,56,53,56,54,56,55,56,56,56,57,57,48,57,49,57,50,57,51,57,52,57,53,57,54,57,55,57,56,57,57]:List UInt8)[r * 2]? = some (Qs (r / 10))∧([48,48,48,49,48,50,48,51,48,52,48,53,48,54,48,55,48,56,48,57,49,48,49,49,49,50,49,51,49,52,49,53,49,54,49,55,49,56,49,57,50,48,50,49,50,50,50,51,50,52,50,53,50,54,50,55,50,56,50,57,51,48,51,49,51,50,51,51,51,52,51,53,51,54,51,55,51,56,51,57,52,48,52,49,52,50,52,51,52,52,52,53,52,54,52,55,52,56,52,57,53,48,53,49,53,50,53,51,53,52,53,53,53,54,53,55,53,56,53,57,54,48,54,49,54,50,54,51,54,52,54,53,54,54,54,55,54,56,54,57,55,48,55,49,55,50,55,51,55,52,55,53,55,54,55,55,55,56,55,57,56,48,56,49,56,50,56,51,56,52,56,53,56,54,56,55,56,56,56,57,57,48,57,49,57,50,57,51,57,52,57,53,57,54,57,55,57,56,57,57]:List UInt8)[r * 2+1]? = some (Qs (r % 10)):=by decide
 exact h r hr
theorem w32 {n:Nat} (h:n<4294967296):IntKind.u32.wrap (n:Int)=(n:Int):=by
 have e:∀n:Int,IntKind.u32.wrap n=n % 4294967296:=fun n=>by simp[IntKind.wrap,IntKind.bits,IntKind.signed]
 rw[e];omega
def fw:Nat→Nat→List UInt8
 | 0,_=>[]
 | k+1,x=>fw k (x / 10)++[Qs (x % 10)]
theorem QlZ:∀ (k u:Nat),10 ^ k≤u→u<10 ^ (k+1)→fw (k+1) u=dgs 10 u
 | 0,u,h1,h2=>by
  rw[Gg (by omega)]
  show[]++[Qs (u % 10)]=_
  rw[Nat.mod_eq_of_lt (by omega)];rfl
 | k+1,u,h1,h2=>by
  have hu:10≤u:=by
   have:10 ^ 1≤10 ^ (k+1):=Nat.pow_le_pow_right (by decide) (by omega)
   omega
  rw[QaD hu (by decide),← QlZ k (u / 10) (by rw[Nat.pow_succ]at h1;omega) (by rw[Nat.pow_succ]at h2;omega)]
  rfl
theorem fw2 (k x:Nat):fw (k+2) x=fw k (x / 100)++[Qs (x % 100 / 10),Qs (x % 100 % 10)]:=by
 show fw k (x / 10 / 10)++[Qs (x / 10 % 10)]++[Qs (x % 10)]=_
 rw[Nat.div_div_eq_div_mul,List.append_assoc,show x % 100 / 10=x / 10 % 10 by omega,show x % 100 % 10=x % 10 by omega];rfl
theorem QgN {c l:List Value} {p:Nat} {a b:Value} (hp:p+1<c.length) (hd:c.drop (p+2)=l):(splice (splice c (p+1) [a]) p [b]).drop p=b::a::l∧(splice (splice c (p+1) [a]) p [b]).length=c.length∧(splice c (p+1) [a]).length=c.length:=by
 have h1:(splice c (p+1) [a]).length=c.length:=Wz (by simp;omega)
 have h2:(splice c (p+1) [a]).drop (p+1)=a::l:=J4 hp hd
 exact⟨J4 (by omega) h2,by rw[Wz (by simp;omega),h1],h1⟩
structure FbS (H:Qa) (B:Nat) (e:TypeId) (nd0 u:Nat) (R:List Value) (A:Env) (H':Qa) (nd x:Nat) (suf:List UInt8) (c:List Value):Prop where
 next:H'.next=H.next
 wf:H'.Wf
 keep:∀id,id≠B→H'.get id=H.get id
 get:H'.get B=some (.cells c e false)
 len:c.length=24
 drop:c.drop (1+nd)=u8v suf++R
 dig:fw nd x++suf=fw nd0 u
 le:nd≤nd0
 xlt:x<4294967296
 xw:x<10 ^ nd
 r0:A 0=.slice (some ⟨B,1,none⟩) nd0 23
 r4:A 4=.int .i64 (nd:Int)
 r12:A 12=.int .u32 (x:Int)
def FbP (H:Qa) (B:Nat) (e:TypeId) (nd0 u:Nat) (R:List Value) (v:Value) (H':Qa):Prop:=v=.tuple #[]∧H'.next=H.next∧(∀id,id≠B→H'.get id=H.get id)∧∃c,H'.get B=some (.cells c e false)∧c.length=24∧c.drop 1=u8v (fw nd0 u)++R
theorem fb1 {H:Qa} {B:Nat} {e:TypeId} {nd0 u:Nat} {R:List Value} (h1:1≤nd0) (h7:nd0≤7) {A:Env} {H':Qa} {nd x:Nat} {suf:List UInt8} {c:List Value} (hnd:nd≤1) (S:FbS H B e nd0 u R A H' nd x suf c):
  Qw prog Qy ⟨Rt prog Qo H (FbP H B e nd0 u R),Qa0⟩ (Rt prog Qo H (FbP H B e nd0 u R)) A H':=by
 obtain⟨hn,hwf,hk,hg,hl,hd,hdig,hle,hx,hxw,r0,r4,r12⟩:=S
 rcases Nat.eq_zero_or_pos nd with h0 | h0
 ·subst h0
  have e1:decide ((0:Int)<((0:Nat):Int))=false:=rfl
  simp only[Qy,sxA,sxB,Nat.reduceBEq,Nat.reduceEqDiff,reduceCtorEq,mxA,mxB,Nat.reduceAdd,reduceIte,Nat.reduceLeDiff,splice,r0,r4,r12,e1,WO]
  exact .mk (by omega) ⟨rfl,hn,hk,c,hg,hl,by rw[← hdig];exact hd⟩
 ·have e1:decide ((0:Int)<(nd:Int))=true:=decide_eq_true (by omega)
  have hnd1:nd=1:=by omega
  subst hnd1
  have hx10:x<10:=hxw
  have w1:IntKind.u32.wrap (48+(x:Int))=((48+x:Nat):Int):=by rw[← w32 (n:=48+x) (by omega)];congr 1
  have w2:IntKind.u8.wrap ((48+x:Nat):Int)=((Qs x).toNat:Int):=by
   rw[IntKind.wrap_u8]
   have:∀x,x<10→(Qs x).toNat=48+x:=by decide
   rw[this x hx10];omega
  have c1:(0:Int)≤0∧(0:Int)<(nd0:Int):=by omega
  have c2:1+1≤c.length:=by omega
  have u0:(0:Int).toNat=0:=rfl
  simp only[Qy,sxA,sxB,Nat.reduceBEq,Nat.reduceEqDiff,reduceCtorEq,mxA,mxB,Nat.reduceAdd,reduceIte,Nat.reduceLeDiff,r0,r4,r12,e1,w1,w2,c1,c2,u0,hg,WO]
  refine .mk (by rw[Qa.next_set];omega) ⟨rfl,by rw[Qa.next_set];exact hn,fun id hid=>by rw[Qa.get_set,if_neg hid];exact hk id hid,splice c 1 [.int .u8 ((Qs x).toNat:Int)],by rw[Qa.get_set,if_pos rfl],by rw[Wz (by simp;omega)];exact hl,?_⟩
  rw[J4 (l:=u8v suf++R) (by omega) hd,← hdig]
  show _=u8v ([]++[Qs (x % 10)]++suf)++R
  rw[Nat.mod_eq_of_lt hx10];rfl
theorem Ql0 (x:Nat):(x:Int).tmod 100=((x % 100:Nat):Int):=rfl
theorem QoB (x:Nat):(x:Int).tmod 10000=((x % 10000:Nat):Int):=rfl
theorem Ql1 {x:Nat} (h:x<4294967296):IntKind.u32.wrap ((x:Int).tdiv 100)=((x / 100:Nat):Int):=by
 rw[show(x:Int).tdiv 100=((x / 100:Nat):Int) from rfl];exact w32 (by omega)
theorem QoC {x:Nat} (h:x<4294967296):IntKind.u32.wrap ((x:Int).tdiv 10000)=((x / 10000:Nat):Int):=by
 rw[show(x:Int).tdiv 10000=((x / 10000:Nat):Int) from rfl];exact w32 (by omega)
theorem Ql2 {x:Nat} (h:x<100):IntKind.u32.wrap ((x:Int) * 2)=((x * 2:Nat):Int)∧IntKind.u32.wrap (((x * 2:Nat):Int)+1)=((x * 2+1:Nat):Int):=by
 refine⟨?_,?_⟩
 ·rw[← w32 (n:=x * 2) (by omega)];congr 1
 ·rw[← w32 (n:=x * 2+1) (by omega)];congr 1
theorem fb3 {H:Qa} {B:Nat} {e:TypeId} {nd0 u:Nat} {R:List Value} (h1:1≤nd0) (h7:nd0≤7) {A:Env} {H':Qa} {nd x:Nat} {suf:List UInt8} {c:List Value} (hnd:nd≤3) (S:FbS H B e nd0 u R A H' nd x suf c):
  Qw prog Qz ⟨Rt prog Qo H (FbP H B e nd0 u R),Qa0⟩ (Rt prog Qo H (FbP H B e nd0 u R)) A H':=by
 obtain⟨hn,hwf,hk,hg,hl,hd,hdig,hle,hx,hxw,r0,r4,r12⟩:=S
 by_cases h2:2≤nd
 ·have e1:decide ((2:Int)≤(nd:Int))=true:=decide_eq_true (by omega)
  obtain⟨k,rfl⟩:∃k,nd=k+2:=⟨nd - 2,by omega⟩
  have hr:x % 100<100:=Nat.mod_lt _ (by decide)
  obtain⟨t1,t2⟩:=Ql2 hr
  obtain⟨m1,m2⟩:=QcM _ hr
  dsimp only at m1 m2
  have i1:IntKind.i64.wrap (((k+2:Nat):Int) - 1)=((k+1:Nat):Int):=by rw[w64 (by unfold I64;omega)];omega
  have i2:IntKind.i64.wrap (((k+2:Nat):Int) - 2)=((k:Nat):Int):=by rw[w64 (by unfold I64;omega)];omega
  have c1:(0:Int)≤((k+1:Nat):Int)∧((k+1:Nat):Int)<(nd0:Int):=by omega
  have c2:(0:Int)≤((k:Nat):Int)∧((k:Nat):Int)<(nd0:Int):=by omega
  have n1:((k+1:Nat):Int).toNat=k+1:=Int.toNat_natCast _
  have n2:((k:Nat):Int).toNat=k:=Int.toNat_natCast _
  have n3:((x % 100 * 2:Nat):Int).toNat=x % 100 * 2:=Int.toNat_natCast _
  have n4:((x % 100 * 2+1:Nat):Int).toNat=x % 100 * 2+1:=Int.toNat_natCast _
  have n5:(0:Int)≤((x % 100 * 2:Nat):Int):=Int.natCast_nonneg _
  have n6:(0:Int)≤((x % 100 * 2+1:Nat):Int):=Int.natCast_nonneg _
  have z100:¬ ((100:Int)=0):=by decide
  have l1:1+(k+1)+1≤c.length:=by omega
  have hd2:c.drop (1+k+2)=u8v suf++R:=by rw[← hd];congr 1
  obtain⟨g1,g2,g3⟩:=QgN (a:=.int .u8 ((Qs (x % 100 % 10)).toNat:Int)) (b:=.int .u8 ((Qs (x % 100 / 10)).toNat:Int)) (p:=1+k) (by omega) hd2
  have l2:1+k+1≤(splice c (1+(k+1)) [.int .u8 ((Qs (x % 100 % 10)).toNat:Int)]).length:=by rw[show 1+(k+1)=1+k+1 by omega,g3];omega
  simp only[Qz,WK,sxA,sxB,Nat.reduceBEq,Nat.reduceEqDiff,reduceCtorEq,mxA,mxB,Nat.reduceAdd,reduceIte,Nat.reduceLeDiff,r0,r4,r12,e1,z100,Ql0,Ql1 hx,t1,t2,i1,i2,Qk,Qg,n3,n4,n5,n6]
  refine⟨_,m2,_,m1,?_⟩
  simp only[sxA,sxB,Nat.reduceBEq,Nat.reduceEqDiff,reduceCtorEq,mxA,mxB,Nat.reduceAdd,reduceIte,Nat.reduceLeDiff,r0,r4,r12,c1,c2,n1,n2,hg,l1,l2,i2]
  refine fb1 h1 h7 (nd:=k) (x:=x / 100) (suf:=Qs (x % 100 / 10)::Qs (x % 100 % 10)::suf) (c:=splice (splice c (1+(k+1)) [.int .u8 ((Qs (x % 100 % 10)).toNat:Int)]) (1+k) [.int .u8 ((Qs (x % 100 / 10)).toNat:Int)]) (by omega) ⟨?_,?_,?_,?_,?_,?_,?_,by omega,by omega,?_,?_,?_,?_⟩
  ·rw[Qa.next_set,Qa.next_set];exact hn
  ·exact(hwf.set hg _).set (i:=B) (by rw[Qa.get_set,if_pos rfl]) _
  ·intro id hid;rw[Qa.get_set,if_neg hid,Qa.get_set,if_neg hid];exact hk id hid
  ·rw[Qa.get_set,if_pos rfl]
  ·rw[show 1+(k+1)=1+k+1 by omega,g2];exact hl
  ·rw[show 1+(k+1)=1+k+1 by omega,g1];rfl
  ·rw[← hdig,fw2,List.append_assoc];rfl
  ·rw[Nat.pow_add]at hxw;omega
  all_goals simp only[uxA,uxB,Nat.reduceBEq,r0,r4,r12]
 ·have e1:decide ((2:Int)≤(nd:Int))=false:=decide_eq_false (by omega)
  simp only[Qz,sxA,sxB,Nat.reduceBEq,Nat.reduceEqDiff,reduceCtorEq,mxA,mxB,Nat.reduceAdd,reduceIte,Nat.reduceLeDiff,splice,r0,r4,r12,e1]
  refine fb1 h1 h7 (nd:=nd) (x:=x) (suf:=suf) (c:=c) (by omega) ⟨hn,hwf,hk,hg,hl,hd,hdig,hle,hx,hxw,?_,?_,?_⟩
  all_goals simp only[uxA,uxB,Nat.reduceBEq,r0,r4,r12]
theorem fb5 {H:Qa} {B:Nat} {e:TypeId} {nd0 u:Nat} {R:List Value} (h1:1≤nd0) (h7:nd0≤7) {A:Env} {H':Qa} {c:List Value} (hu:u<4294967296) (hr1:A 1=.int .u64 (u:Int)) (S:∀A2:Env,A2 0=A 0→A2 4=A 4→A2 12=.int .u32 (u:Int)→FbS H B e nd0 u R A2 H' nd0 u [] c):
  Qw prog QA ⟨Rt prog Qo H (FbP H B e nd0 u R),Qa0⟩ (Rt prog Qo H (FbP H B e nd0 u R)) A H':=by
 have S0:=S (upd A 12 (.int .u32 (u:Int))) (by simp only[uxA,uxB,Nat.reduceBEq]) (by simp only[uxA,uxB,Nat.reduceBEq]) (by simp only[uxA,uxB,Nat.reduceBEq])
 obtain⟨hn,hwf,hk,hg,hl,hd,hdig,hle,hx,hxw,r0,r4,r12⟩:=S0
 simp only[uxA,uxB,Nat.reduceBEq]at r0 r4
 have wu:IntKind.u32.wrap (u:Int)=(u:Int):=w32 hu
 by_cases h4:4≤nd0
 ·have e1:decide ((4:Int)≤(nd0:Int))=true:=decide_eq_true (by omega)
  obtain⟨k,rfl⟩:∃k,nd0=k+4:=⟨nd0 - 4,by omega⟩
  have hq1:u % 10000 / 100<100:=by omega
  have hq0:u % 10000 % 100<100:=by omega
  obtain⟨t1,t2⟩:=Ql2 hq0
  obtain⟨t3,t4⟩:=Ql2 hq1
  obtain⟨m1,m2⟩:=QcM _ hq0
  obtain⟨m3,m4⟩:=QcM _ hq1
  dsimp only at m1 m2 m3 m4
  have i1:IntKind.i64.wrap (((k+4:Nat):Int) - 1)=((k+3:Nat):Int):=by rw[w64 (by unfold I64;omega)];omega
  have i2:IntKind.i64.wrap (((k+4:Nat):Int) - 2)=((k+2:Nat):Int):=by rw[w64 (by unfold I64;omega)];omega
  have i3:IntKind.i64.wrap (((k+4:Nat):Int) - 3)=((k+1:Nat):Int):=by rw[w64 (by unfold I64;omega)];omega
  have i4:IntKind.i64.wrap (((k+4:Nat):Int) - 4)=((k:Nat):Int):=by rw[w64 (by unfold I64;omega)];omega
  have c1:∀j:Nat,j<4→(0:Int)≤((k+j:Nat):Int)∧((k+j:Nat):Int)<((k+4:Nat):Int):=by omega
  have c10:=c1 0 (by decide)
  have c11:=c1 1 (by decide)
  have c12:=c1 2 (by decide)
  have c13:=c1 3 (by decide)
  have n0:((k+0:Nat):Int).toNat=k:=Int.toNat_natCast _
  have n1:((k+1:Nat):Int).toNat=k+1:=Int.toNat_natCast _
  have n2:((k+2:Nat):Int).toNat=k+2:=Int.toNat_natCast _
  have n3:((k+3:Nat):Int).toNat=k+3:=Int.toNat_natCast _
  have nn:∀q:Nat,((q:Nat):Int).toNat=q:=fun q=>Int.toNat_natCast q
  have np:∀q:Nat,(0:Int)≤((q:Nat):Int):=fun q=>Int.natCast_nonneg q
  have z100:¬ ((100:Int)=0):=by decide
  have z1e4:¬ ((10000:Int)=0):=by decide
  have hm:u % 10000<4294967296:=by omega
  simp only[QA,WL,sxA,sxB,Nat.reduceBEq,Nat.reduceEqDiff,reduceCtorEq,mxA,mxB,Nat.reduceAdd,reduceIte,Nat.reduceLeDiff,r0,r4,hr1,wu,e1,z100,z1e4,QoB,QoC hu,Ql0,Ql1 hm,t1,t2,t3,t4,i1,i2,Qk,Qg,nn,np]
  refine⟨_,m2,_,m1,?_⟩
  have hd2:c.drop (1+(k+2)+2)=u8v []++R:=by rw[← hd];congr 1
  obtain⟨g1,g2,g3⟩:=QgN (a:=.int .u8 ((Qs (u % 10000 % 100 % 10)).toNat:Int)) (b:=.int .u8 ((Qs (u % 10000 % 100 / 10)).toNat:Int)) (p:=1+(k+2)) (by omega) hd2
  rw[show 1+(k+2)+1=1+(k+3) by omega]at g1 g2 g3
  have l1:1+(k+3)+1≤c.length:=by omega
  have l2:1+(k+2)+1≤(splice c (1+(k+3)) [.int .u8 ((Qs (u % 10000 % 100 % 10)).toNat:Int)]).length:=by rw[g3];omega
  generalize hs1:splice c (1+(k+3)) [.int .u8 ((Qs (u % 10000 % 100 % 10)).toNat:Int)]=s1 at *
  generalize hs2:splice s1 (1+(k+2)) [.int .u8 ((Qs (u % 10000 % 100 / 10)).toNat:Int)]=s2 at *
  have hd3:s2.drop (1+k+2)=.int .u8 ((Qs (u % 10000 % 100 / 10)).toNat:Int)::.int .u8 ((Qs (u % 10000 % 100 % 10)).toNat:Int)::(u8v []++R):=by rw[show 1+k+2=1+(k+2) by omega];exact g1
  obtain⟨g4,g5,g6⟩:=QgN (a:=.int .u8 ((Qs (u % 10000 / 100 % 10)).toNat:Int)) (b:=.int .u8 ((Qs (u % 10000 / 100 / 10)).toNat:Int)) (p:=1+k) (by omega) hd3
  rw[show 1+k+1=1+(k+1) by omega]at g4 g5 g6
  have l3:1+(k+1)+1≤s2.length:=by omega
  have l4:1+k+1≤(splice s2 (1+(k+1)) [.int .u8 ((Qs (u % 10000 / 100 % 10)).toNat:Int)]).length:=by rw[g6];omega
  generalize hs3:splice s2 (1+(k+1)) [.int .u8 ((Qs (u % 10000 / 100 % 10)).toNat:Int)]=s3 at *
  generalize hs4:splice s3 (1+k) [.int .u8 ((Qs (u % 10000 / 100 / 10)).toNat:Int)]=s4 at *
  have c10:(0:Int)≤((k:Nat):Int)∧((k:Nat):Int)<((k+4:Nat):Int):=by omega
  simp only[sxA,sxB,Nat.reduceBEq,Nat.reduceEqDiff,reduceCtorEq,mxA,mxB,Nat.reduceAdd,reduceIte,Nat.reduceLeDiff,r0,r4,c10,c11,c12,c13,nn,np,hg,l1,l2,l3,l4,hs1,hs2,hs3,hs4,i3,i4,t4,Qk,Qg]
  refine⟨_,m4,_,m3,?_⟩
  simp only[sxA,sxB,Nat.reduceBEq,Nat.reduceEqDiff,reduceCtorEq,mxA,mxB,Nat.reduceAdd,reduceIte,Nat.reduceLeDiff,r0,r4,c10,c11,c12,c13,nn,np,hg,l1,l2,l3,l4,hs1,hs2,hs3,hs4,i3,i4]
  refine fb3 h1 h7 (nd:=k) (x:=u / 10000) (suf:=[Qs (u % 10000 / 100 / 10),Qs (u % 10000 / 100 % 10),Qs (u % 10000 % 100 / 10),Qs (u % 10000 % 100 % 10)]) (c:=s4) (by omega) ⟨?_,?_,?_,?_,by omega,?_,?_,by omega,by omega,?_,?_,?_,?_⟩
  ·simp only[Qa.next_set];exact hn
  ·exact(((hwf.set hg _).set (i:=B) (by rw[Qa.get_set,if_pos rfl]) _).set (i:=B) (by rw[Qa.get_set,if_pos rfl]) _).set (i:=B) (by rw[Qa.get_set,if_pos rfl]) _
  ·intro id hid;simp only[Qa.get_set,if_neg hid];exact hk id hid
  ·rw[Qa.get_set,if_pos rfl]
  ·rw[g4];rfl
  ·rw[show k+4=k+2+2 by omega,fw2,fw2,List.append_assoc,show u / 100 / 100=u / 10000 by omega,show u % 10000 / 100 / 10=u / 100 % 100 / 10 by omega,show u % 10000 / 100 % 10=u / 100 % 100 % 10 by omega,show u % 10000 % 100 / 10=u % 100 / 10 by omega,show u % 10000 % 100 % 10=u % 100 % 10 by omega];rfl
  ·rw[Nat.pow_add]at hxw;omega
  all_goals simp only[uxA,uxB,Nat.reduceBEq,r0,r4]
 ·have e1:decide ((4:Int)≤(nd0:Int))=false:=decide_eq_false (by omega)
  simp only[QA,sxA,sxB,Nat.reduceBEq,Nat.reduceEqDiff,reduceCtorEq,mxA,mxB,Nat.reduceAdd,reduceIte,Nat.reduceLeDiff,splice,r0,r4,hr1,wu,e1]
  refine fb3 h1 h7 (nd:=nd0) (x:=u) (suf:=[]) (c:=c) (by omega) (S _ ?_ ?_ ?_)
  all_goals simp only[uxA,uxB,Nat.reduceBEq,r0,r4]
theorem QoD (nd u:Nat) (h1:1≤nd) (h7:nd≤7) (hu:u<10 ^ nd) (B:Nat) (e:TypeId) (c:List Value) (R:List Value) (hc:c.length=24) (hd:c.drop (1+nd)=R) (H:Qa) (hg:H.get B=some (.cells c e false)):
  Qf prog QG [.slice (some ⟨B,1,none⟩) nd 23,.int .u64 (u:Int)] H (FbP H B e nd u R):=by
 refine Z0 fun hw=>?_
 have hu32:u<4294967296:=by
  have:10 ^ nd≤10 ^ 7:=Nat.pow_le_pow_right (by decide) h7
  omega
 have e8:decide ((8:Int)≤(nd:Int))=false:=decide_eq_false (by omega)
 simp only[W8,sxA,sxB,Nat.reduceBEq,Nat.reduceEqDiff,reduceCtorEq,mxA,mxB,Nat.reduceAdd,reduceIte,Nat.reduceLeDiff,splice,Qb]
 refine QC (fun m A' H'=>H'=H∧A' 0=.slice (some ⟨B,1,none⟩) nd 23∧A' 1=.int .u64 (u:Int)∧A' 4=.int .i64 (nd:Int)) 0 ⟨rfl,?_,?_,?_⟩ ?_
 ·simp only[uxA,uxB,Nat.reduceBEq]
 ·simp only[uxA,uxB,Nat.reduceBEq]
 ·simp only[uxA,uxB,Nat.reduceBEq]
 ·rintro m A' H' ⟨rfl,r0,r1,r4⟩
  simp only[WM,sxA,sxB,Nat.reduceBEq,Nat.reduceEqDiff,reduceCtorEq,mxA,mxB,Nat.reduceAdd,reduceIte,Nat.reduceLeDiff,splice,r0,r1,r4,e8]
  refine fb5 h1 h7 (c:=c) hu32 ?_ fun A2 q0 q4 q12=>⟨rfl,hw,fun _ _=>rfl,hg,hc,by rw[hd];rfl,by rw[List.append_nil],Nat.le_refl _,hu32,hu,q0.trans ?_,q4.trans ?_,q12⟩
  all_goals simp only[uxA,uxB,Nat.reduceBEq,r0,r1,r4]
theorem Qff {T:Qa→Prop} (hT:∀H H',H.Wf→T H→Ext H H'→T H') (hP:Qoz T) (u:Nat) (h2:u<1048577) (H:Qa) (hTH:T H):Qf prog GX [.int .i64 (u:Int)] H fun v H'=>v=.string (mkS (Z7 u))∧Ext H H':=by
 have edec:Z7 (u:Int)=dgs 10 u:=by
  unfold Z7 GQ
  rw[if_neg (by omega)];rfl
 rw[edec]
 have hF:Qf prog Wq [.int .i64 (u:Int),.int .i64 10] H fun v H'=>v=.string (mkS (dgs 10 u))∧Ext H H':=by
  refine J1 fun hw=>?_
  have e0:decide ((0:Int)≤(u:Int))=true:=decide_eq_true (by omega)
  have e10:((10:Int)==10)=true:=rfl
  by_cases h100:u<100
  ·have e1:decide ((u:Int)<100)=true:=decide_eq_true (by omega)
   simp only[Wn,Q9,sxA,sxB,Nat.reduceBEq,Nat.reduceEqDiff,reduceCtorEq,mxA,mxB,Nat.reduceAdd,reduceIte,Nat.reduceLeDiff,splice,e0,e1,e10]
   refine(Qnt u h100 H).thenW ?_
   rintro _ H1 _ hw1 ⟨rfl,rfl⟩
   simp only[sxA,sxB,Nat.reduceBEq,Nat.reduceEqDiff,reduceCtorEq,mxA,mxB,Nat.reduceAdd,reduceIte,Nat.reduceLeDiff,splice,XI]
   exact .mk (Nat.le_refl _) ⟨rfl,.refl _⟩
  ·have e1:decide ((u:Int)<100)=false:=decide_eq_false (by omega)
   have e2:decide ((u:Int)<0)=false:=decide_eq_false (by omega)
   have wu:IntKind.u64.wrap (u:Int)=(u:Int):=QiX (Int.natCast_nonneg _) (by omega)
   simp only[Wn,Q9,Xq,Xp,sxA,sxB,Nat.reduceBEq,Nat.reduceEqDiff,reduceCtorEq,mxA,mxB,Nat.reduceAdd,reduceIte,Nat.reduceLeDiff,splice,e0,e1,e2,e10,wu]
   generalize hE:H.push _=H1
   obtain⟨e,z,hz,h1⟩:∃e z,z.length=24∧H1=H.push (.cells z e false):=⟨_,_,rfl,hE.symm⟩
   clear hE
   have hx1:Ext H H1:=by rw[h1];exact(Ext.refl H).push _
   have hg1:H1.get H.next=some (.cells z e false):=by rw[h1,Qa.get_push,if_pos rfl]
   have hn1:H1.next=H.next+1:=by rw[h1,Qa.next_push]
   clear h1
   refine(QhH hP u (by omega) h2 H1 (hT _ _ hw hTH hx1)).thenW ?_
   rintro _ H2 _ hw2 ⟨⟨n,rfl,hn3,hn7,hna,hnb⟩,rfl⟩
   have en:IntKind.i64.wrap (1+(n:Int))=((1+n:Nat):Int):=by rw[w64 (by unfold I64;omega)];omega
   simp only[sxA,sxB,Nat.reduceBEq,Nat.reduceEqDiff,reduceCtorEq,mxA,mxB,Nat.reduceAdd,reduceIte,Nat.reduceLeDiff,splice,en]
   rw[QcH (n:=24) (size:=1) (b:=H.next) (o:=0) (l:=1) (h:=1+n) (by kernel_rfl) (by simp only[uxA,uxB,Nat.reduceBEq]) (.inl rfl) (.inl (by simp only[Qp,uxA,uxB,Nat.reduceBEq])) (by omega) (by omega) (by unfold UNK;decide)]
   simp only[sxA,sxB,Nat.reduceBEq,Nat.reduceEqDiff,reduceCtorEq,mxA,mxB,Nat.reduceAdd,reduceIte,Nat.reduceLeDiff,splice,Nat.add_sub_cancel_left]
   refine(QoD n u (by omega) hn7 hnb H.next e z _ hz rfl H2 hg1).thenW ?_
   rintro _ H3 _ hw3 ⟨rfl,hn3',hk3,c,hg3,hc3,hd3⟩
   simp only[sxA,sxB,Nat.reduceBEq,Nat.reduceEqDiff,reduceCtorEq,mxA,mxB,Nat.reduceAdd,reduceIte,Nat.reduceLeDiff,splice,e2,en]
   rw[QcH (n:=24) (size:=1) (b:=H.next) (o:=0) (l:=1) (h:=1+n) (by kernel_rfl) (by simp only[uxA,uxB,Nat.reduceBEq]) (.inl rfl) (.inl (by simp only[Qp,uxA,uxB,Nat.reduceBEq])) (by omega) (by omega) (by unfold UNK;decide)]
   simp only[sxA,sxB,Nat.reduceBEq,Nat.reduceEqDiff,reduceCtorEq,mxA,mxB,Nat.reduceAdd,reduceIte,Nat.reduceLeDiff,splice,Nat.add_sub_cancel_left]
   have hdg:fw n u=dgs 10 u:=by
    obtain⟨k,rfl⟩:∃k,n=k+1:=⟨n - 1,by omega⟩
    exact QlZ k u hna hnb
   have hfl:∀k x,(fw k x).length=k:=fun k=>by
    induction k with
    | zero=>intro x;rfl
    | succ k ih=>intro x;show(fw k (x / 10)++[Qs (x % 10)]).length=_;rw[List.length_append,ih];rfl
   rw[QaU (n:=n) (c:=23) (a:=some ⟨H.next,1,none⟩) (vs:=u8v (dgs 10 u)) (bs:=dgs 10 u) (by kernel_rfl) (by simp only[uxA,uxB,Nat.reduceBEq]) (by
    simp only[Wp]
    rw[if_neg (by omega),hg3]
    simp only[]
    rw[if_pos (by omega),hd3,Nat.mul_one,← hdg,List.take_append_of_le_length (by rw[VM,hfl];exact Nat.le_refl _),List.take_of_length_le (by rw[VM,hfl];exact Nat.le_refl _)]) (ZD _)]
   simp only[sxA,sxB,Nat.reduceBEq,Nat.reduceEqDiff,reduceCtorEq,XI]
   have hx3:Ext H H3:=⟨by omega,fun id hid=>by rw[hk3 id (by omega)];exact hx1.get id hid⟩
   exact .mk hx3.next ⟨rfl,hx3⟩
 refine Qer fun hw=>?_
 simp only[Qaw,sxA,sxB,Nat.reduceBEq,Nat.reduceEqDiff,reduceCtorEq,mxA,mxB,Nat.reduceAdd,reduceIte,Nat.reduceLeDiff,splice]
 have h3:Qf prog KO [.int .i64 (u:Int)] H fun v H'=>v=.string (mkS (dgs 10 u))∧Ext H H':=by
  refine Qdw fun hw=>?_
  simp only[VY,sxA,sxB,Nat.reduceBEq,Nat.reduceEqDiff,reduceCtorEq,mxA,mxB,Nat.reduceAdd,reduceIte,Nat.reduceLeDiff,splice]
  have h4:Qf prog Xy [.int .i64 (u:Int)] H fun v H'=>v=.string (mkS (dgs 10 u))∧Ext H H':=by
   refine G1 fun hw=>?_
   simp only[Y9,sxA,sxB,Nat.reduceBEq,Nat.reduceEqDiff,reduceCtorEq,mxA,mxB,Nat.reduceAdd,reduceIte,Nat.reduceLeDiff,splice]
   refine hF.thenW ?_
   rintro _ H1 _ hw1 ⟨rfl,hx⟩
   simp only[sxA,sxB,Nat.reduceBEq,Nat.reduceEqDiff,reduceCtorEq,mxA,mxB,Nat.reduceAdd,reduceIte,Nat.reduceLeDiff,splice,Gq]
   exact .mk hx.next ⟨rfl,hx⟩
  refine h4.thenW ?_
  rintro _ H1 _ hw1 ⟨rfl,hx⟩
  simp only[sxA,sxB,Nat.reduceBEq,Nat.reduceEqDiff,reduceCtorEq,mxA,mxB,Nat.reduceAdd,reduceIte,Nat.reduceLeDiff,splice,QcC]
  exact .mk hx.next ⟨rfl,hx⟩
 refine h3.thenW ?_
 rintro _ H1 _ hw1 ⟨rfl,hx⟩
 simp only[sxA,sxB,Nat.reduceBEq,Nat.reduceEqDiff,reduceCtorEq,mxA,mxB,Nat.reduceAdd,reduceIte,Nat.reduceLeDiff,splice,Qdu]
 exact .mk hx.next ⟨rfl,hx⟩
end Go.Proofs.YthoanamkoigjeaaDoor.code
