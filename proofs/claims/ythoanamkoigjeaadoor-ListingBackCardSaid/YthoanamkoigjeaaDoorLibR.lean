/- Texts: strings.HasPrefix, CutPrefix, Split at blanks; the document's words. -/
import Derived.Test.YthoanamkoigjeaaDoorLibO
import Derived.Lib.IndexLaws
import Derived.Test.YthoanamkoigjeaaDoorLibP
set_option linter.unusedVariables false
set_option linter.unusedSimpArgs false
set_option maxRecDepth 100000
set_option maxHeartbeats 4000000
noncomputable section
namespace Go.Proofs.YthoanamkoigjeaaDoor.code
open Go.Ab
theorem Qbi (s p:List UInt8) (hl:s.length≤1000000) (hp:p.length≤1000000) (H:Qa):Qf prog QE [.string (mkS s),.string (mkS p)] H fun u H'=>u=.bool (s.take p.length==p)∧H'=H:=by
 refine ZI fun hw=>?_
 by_cases h:p.length≤s.length
 ·have e1:decide ((p.length:Int)≤(s.length:Int))=true:=decide_eq_true (by omega)
  simp only[Q0,sxA,sxB,Nat.reduceBEq,Nat.reduceEqDiff,reduceCtorEq,mxA,mxB,Nat.reduceAdd,reduceIte,Nat.reduceLeDiff,splice,Qe,Qg,e1]
  rw[QfM (s:=mkS s) (h:=p.length) (ik:=.i64) (by kernel_rfl) (by simp only[uxA,uxB,Nat.reduceBEq]) (by simp only[uxA,uxB,Nat.reduceBEq]) (by rw[Qg];exact h)]
  simp only[sxA,sxB,Nat.reduceBEq,Nat.reduceEqDiff,reduceCtorEq,mxA,mxB,Nat.reduceAdd,reduceIte,Nat.reduceLeDiff,splice,Qg,WJ]
  exact .mk (Nat.le_refl _) ⟨rfl,rfl⟩
 ·have e1:decide ((p.length:Int)≤(s.length:Int))=false:=decide_eq_false (by omega)
  have e2:(s.take p.length==p)=false:=beq_eq_false_iff_ne.2 fun h2=>by
   have:=congrArg List.length h2
   rw[List.length_take]at this
   omega
  rw[e2]
  simp only[Q0,sxA,sxB,Nat.reduceBEq,Nat.reduceEqDiff,reduceCtorEq,mxA,mxB,Nat.reduceAdd,reduceIte,Nat.reduceLeDiff,splice,Qe,Qg,e1,WJ]
  exact .mk (Nat.le_refl _) ⟨rfl,rfl⟩
theorem QhB (s p:List UInt8) (hl:s.length≤1000000) (hp:p.length≤1000000) (H:Qa):Qf prog YR [.string (mkS s),.string (mkS p)] H fun u H'=>u=.bool (s.take p.length==p)∧H'=H:=by
 refine Qaz fun hw=>?_
 simp only[JW,sxA,sxB,Nat.reduceBEq,Nat.reduceEqDiff,reduceCtorEq,mxA,mxB,Nat.reduceAdd,reduceIte,Nat.reduceLeDiff,splice]
 refine(Qbi s p hl hp H).thenW ?_
 rintro _ H1 _ hw1 ⟨rfl,rfl⟩
 simp only[sxA,sxB,Nat.reduceBEq,Nat.reduceEqDiff,reduceCtorEq,mxA,mxB,Nat.reduceAdd,reduceIte,Nat.reduceLeDiff,splice,Qab]
 exact .mk (Nat.le_refl _) ⟨rfl,rfl⟩
def Gh (s p:List UInt8):List UInt8:=if s.take p.length==p then s.drop p.length else s
theorem QhC (s p:List UInt8) (hl:s.length≤1000000) (hp:p.length≤1000000) (H:Qa):Qf prog YQ [.string (mkS s),.string (mkS p)] H fun u H'=>u=.tuple #[.string (mkS (Gh s p)),.bool (s.take p.length==p)]∧H'=H:=by
 refine Qay fun hw=>?_
 simp only[JV,sxA,sxB,Nat.reduceBEq,Nat.reduceEqDiff,reduceCtorEq,mxA,mxB,Nat.reduceAdd,reduceIte,Nat.reduceLeDiff,splice]
 have h2:Qf prog Q5 [.string (mkS s),.string (mkS p)] H fun u H'=>u=.tuple #[.string (mkS (Gh s p)),.bool (s.take p.length==p)]∧H'=H:=by
  refine ZH fun hw=>?_
  unfold Gh
  simp only[WN,sxA,sxB,Nat.reduceBEq,Nat.reduceEqDiff,reduceCtorEq,mxA,mxB,Nat.reduceAdd,reduceIte,Nat.reduceLeDiff,splice]
  refine(Qbi s p hl hp H).thenW ?_
  rintro _ H1 _ hw1 ⟨rfl,rfl⟩
  cases hb:s.take p.length==p with
  | true=>
   have hle:p.length≤s.length:=by
    have:=congrArg List.length (beq_iff_eq.1 hb)
    rw[List.length_take]at this
    omega
   simp only[sxA,sxB,Nat.reduceBEq,Nat.reduceEqDiff,reduceCtorEq,mxA,mxB,Nat.reduceAdd,reduceIte,Nat.reduceLeDiff,splice,Qe,Qg]
   rw[QfL (s:=mkS s) (l:=p.length) (ik:=.i64) (by kernel_rfl) (by simp only[uxA,uxB,Nat.reduceBEq]) (by simp only[uxA,uxB,Nat.reduceBEq]) (by rw[Qg];exact hle)]
   simp only[sxA,sxB,Nat.reduceBEq,Nat.reduceEqDiff,reduceCtorEq,mxA,mxB,Nat.reduceAdd,reduceIte,Nat.reduceLeDiff,splice,Qg,WI]
   exact .mk (Nat.le_refl _) ⟨rfl,rfl⟩
  | false=>
   simp only[sxA,sxB,Nat.reduceBEq,Nat.reduceEqDiff,reduceCtorEq,mxA,mxB,Nat.reduceAdd,reduceIte,Nat.reduceLeDiff,splice,WI]
   exact .mk (Nat.le_refl _) ⟨rfl,rfl⟩
 refine h2.thenW ?_
 rintro _ H1 _ hw1 ⟨rfl,rfl⟩
 simp only[sxA,sxB,Nat.reduceBEq,Nat.reduceEqDiff,reduceCtorEq,mxA,mxB,Nat.reduceAdd,reduceIte,Nat.reduceLeDiff,splice,Qaa]
 exact .mk (Nat.le_refl _) ⟨rfl,rfl⟩
theorem Qfe (s:List UInt8) (c:UInt8) (H:Qa):Qf prog QF [.string (mkS s),.int .u8 (c.toNat:Int)] H fun u H'=>u=.int .i64 (Lib.indexByte s c)∧H'=H:=by
 refine ZJ fun hw=>?_
 simp only[WQ,sxA,sxB,Nat.reduceBEq,Nat.reduceEqDiff,reduceCtorEq,mxA,mxB,Nat.reduceAdd,reduceIte,Nat.reduceLeDiff,splice]
 refine QaV Qbh (v:=.int .i64 (Lib.indexByte s c)) (by simp[Xk.val]) ?_
 simp only[sxA,sxB,Nat.reduceBEq,Nat.reduceEqDiff,reduceCtorEq,mxA,mxB,Nat.reduceAdd,reduceIte,Nat.reduceLeDiff,splice,Zs]
 exact .mk (Nat.le_refl _) ⟨rfl,rfl⟩
theorem QlR (s:List UInt8) (c:UInt8) (H:Qa):Qf prog Ze [.string (mkS s),.string (mkS [c])] H fun u H'=>u=.int .i64 (Lib.indexByte s c)∧H'=H:=by
 refine QcE fun hw=>?_
 simp only[Vp,sxA,sxB,Nat.reduceBEq,Nat.reduceEqDiff,reduceCtorEq,mxA,mxB,Nat.reduceAdd,reduceIte,Nat.reduceLeDiff,splice]
 have h2:Qf prog Wr [.string (mkS s),.string (mkS [c])] H fun u H'=>u=.int .i64 (Lib.indexByte s c)∧H'=H:=by
  refine J2 fun hw=>?_
  have e1:(((1:Nat):Int)==0)=false:=rfl
  have e2:(((1:Nat):Int)==1)=true:=rfl
  have e3:(([c]:List UInt8)==([]:List UInt8))=false:=rfl
  have t0:(0:Int)≤0:=by decide
  have u0:(0:Int).toNat=0:=rfl
  simp only[XN,Xe,sxA,sxB,Nat.reduceBEq,Nat.reduceEqDiff,reduceCtorEq,mxA,mxB,Nat.reduceAdd,reduceIte,Nat.reduceLeDiff,splice,Qe,Qg,Qk,e1,e2,e3,t0,u0]
  cases hs:([c]:List UInt8)==s with
  | true=>
   have hs2:s=[c]:=(beq_iff_eq.1 hs).symm
   subst hs2
   have hz:Lib.indexByte [c] c=0:=by simp[Lib.indexByte]
   simp only[sxA,sxB,Nat.reduceBEq,Nat.reduceEqDiff,reduceCtorEq,mxA,mxB,Nat.reduceAdd,reduceIte,Nat.reduceLeDiff,splice,XJ]
   exact .mk (Nat.le_refl _) ⟨by rw[hz],rfl⟩
  | false=>
   simp only[sxA,sxB,Nat.reduceBEq,Nat.reduceEqDiff,reduceCtorEq,mxA,mxB,Nat.reduceAdd,reduceIte,Nat.reduceLeDiff,splice,Qe,Qg,Qk,e2,t0,u0]
   refine(Qfe s c H).thenW ?_
   rintro _ H1 _ hw1 ⟨rfl,rfl⟩
   simp only[sxA,sxB,Nat.reduceBEq,Nat.reduceEqDiff,reduceCtorEq,mxA,mxB,Nat.reduceAdd,reduceIte,Nat.reduceLeDiff,splice,XJ]
   exact .mk (Nat.le_refl _) ⟨rfl,rfl⟩
 refine h2.thenW ?_
 rintro _ H1 _ hw1 ⟨rfl,rfl⟩
 simp only[sxA,sxB,Nat.reduceBEq,Nat.reduceEqDiff,reduceCtorEq,mxA,mxB,Nat.reduceAdd,reduceIte,Nat.reduceLeDiff,splice,Qb7]
 exact .mk (Nat.le_refl _) ⟨rfl,rfl⟩
theorem QlS (s:List UInt8) (c:UInt8) (H:Qa):Qf prog Kb [.string (mkS s),.string (mkS [c])] H fun u H'=>u=.int .i64 ((s.count c:Nat):Int)∧H'=H:=by
 refine QcD fun hw=>?_
 have e1:(((1:Nat):Int)==0)=false:=rfl
 have e2:(((1:Nat):Int)==1)=true:=rfl
 have t0:(0:Int)≤0:=by decide
 have u0:(0:Int).toNat=0:=rfl
 simp only[Vo,Gb,sxA,sxB,Nat.reduceBEq,Nat.reduceEqDiff,reduceCtorEq,mxA,mxB,Nat.reduceAdd,reduceIte,Nat.reduceLeDiff,splice,Qe,Qg,Qk,e1,e2,t0,u0]
 refine QaV QfR (args:=[.string (mkS s),.int .u8 (c.toNat:Int)]) (v:=.int .i64 ((s.count c:Nat):Int)) (by simp[Xk.val,Lib.countByte]) ?_
 simp only[sxA,sxB,Nat.reduceBEq,Nat.reduceEqDiff,reduceCtorEq,mxA,mxB,Nat.reduceAdd,reduceIte,Nat.reduceLeDiff,splice,Qb6]
 exact .mk (Nat.le_refl _) ⟨rfl,rfl⟩
def Qc:List UInt8→List (List UInt8)
 | []=>[[]]
 | c::l=>if c=32 then[]::Qc l else match Qc l with
  | w::ws=>(c::w)::ws
  | []=>[[c]]
theorem QaX:∀l,Qc l≠[]
 | []=>by simp[Qc]
 | c::l=>by
  unfold Qc
  split
  ·simp
  ·split<;>simp
theorem GR:∀l:List UInt8,(∀c∈l,c≠32)→Qc l=[l]
 | [],_=>rfl
 | c::l,h=>by
  rw[Qc,if_neg (h c (by simp)),GR l fun d hd=>h d (by simp[hd])]
theorem VN:∀a b:List UInt8,(∀c∈a,c≠32)→Qc (a++32::b)=a::Qc b
 | [],b,_=>by simp[Qc]
 | c::a,b,h=>by
  rw[List.cons_append,Qc,if_neg (h c (by simp)),VN a b fun d hd=>h d (by simp[hd])]
theorem Qex (l:List UInt8):(Qc l).length=l.count 32+1:=by
 induction l with
 | nil=>rfl
 | cons c l ih=>
  unfold Qc
  by_cases h:c=32
  ·subst h;rw[if_pos rfl,List.length_cons,ih,List.count_cons_self]
  ·rw[if_neg h,List.count_cons_of_ne h]
   cases hw:Qc l with
   | nil=>exact absurd hw (QaX l)
   | cons w ws=>rw[hw]at ih;simpa using ih
theorem QlT {s:List UInt8} {c:UInt8} (h:Lib.indexByte s c<0):∀d∈s,d≠c:=by
 have h1:Lib.indexByte s c=-1:=by have:=Lib.indexByte_ge s c;omega
 intro d hd hdc
 obtain⟨k,hk⟩:=List.mem_iff_getElem?.1 hd
 exact Lib.indexByte_none h1 k (by rw[hk,hdc])
theorem QlU {s:List UInt8} {c:UInt8} {o:Nat} (h:Lib.indexByte s c=o):o<s.length∧s=s.take o++c::s.drop (o+1)∧∀d∈s.take o,d≠c:=by
 obtain⟨h1,h2⟩:=Lib.indexByte_some h
 have ho:o<s.length:=(List.getElem?_eq_some_iff.1 h1).1
 refine⟨ho,?_,fun d hd hdc=>?_⟩
 ·have:s.drop o=c::s.drop (o+1):=by
   rw[List.drop_eq_getElem_cons ho]
   congr 1
   rw[List.getElem?_eq_getElem ho]at h1
   exact Option.some.inj h1
  rw[← this,List.take_append_drop]
 ·obtain⟨k,hk⟩:=List.mem_iff_getElem?.1 hd
  rw[List.getElem?_take]at hk
  split at hk
  ·rename_i hko;exact h2 k hko (by rw[hk,hdc])
  ·cases hk
def YU (l:List (List UInt8)):List Value:=l.map fun w=>.string (mkS w)
theorem Qey (l:List (List UInt8)):(YU l).length=l.length:=by simp[YU]
theorem Qez {l:List (List UInt8)} {i:Nat} {w:List UInt8} (h:l[i]? = some w):(YU l)[i]? = some (.string (mkS w)):=by simp[YU,h]
def QhD (H0 H:Qa) (v:Value) (n:Nat) (cs:List Value):Prop:=∃b cap e,v=.slice (some ⟨b,0,none⟩) n cap∧H0.next≤b∧H.get b=some (.cells cs e false)
theorem QgK (s:List UInt8) (hl:s.length≤1000000) (H:Qa):Qf prog X0 [.string (mkS s),.string (mkS [32])] H fun u H'=>QhD H H' u (Qc s).length (YU (Qc s))∧Ext H H':=by
 refine QcB fun hw=>?_
 simp only[Vm,sxA,sxB,Nat.reduceBEq,Nat.reduceEqDiff,reduceCtorEq,mxA,mxB,Nat.reduceAdd,reduceIte,Nat.reduceLeDiff,splice]
 have hG:Qf prog Zl [.string (mkS s),.string (mkS [32]),.int .i64 0,.int .i64 (-1)] H fun u H'=>QhD H H' u (Qc s).length (YU (Qc s))∧Ext H H':=by
  refine Qa4 fun hw=>?_
  have hwl:=Qex s
  have hcl:s.count 32≤s.length:=List.count_le_length
  have e1:((-1:Int)==0)=false:=rfl
  have e2:(([32]:List UInt8)==([]:List UInt8))=false:=rfl
  have e3:decide ((-1:Int)<0)=true:=rfl
  simp only[Kl,Jw,Jv,sxA,sxB,Nat.reduceBEq,Nat.reduceEqDiff,reduceCtorEq,mxA,mxB,Nat.reduceAdd,reduceIte,Nat.reduceLeDiff,splice,Qg,e1,e2,e3]
  refine(QlS s 32 H).thenW ?_
  rintro _ H1 _ hw1 ⟨rfl,rfl⟩
  have w1:IntKind.i64.wrap (((s.count 32:Nat):Int)+1)=((s.count 32+1:Nat):Int):=by rw[w64 (by unfold I64;omega)];rfl
  have w2:IntKind.i64.wrap ((s.length:Int)+1)=((s.length+1:Nat):Int):=by rw[w64 (by unfold I64;omega)];rfl
  have w3:(if((s.length+1:Nat):Int)<((s.count 32+1:Nat):Int) then((s.length+1:Nat):Int) else((s.count 32+1:Nat):Int))=((s.count 32+1:Nat):Int):=if_neg (by omega)
  simp only[Ju,sxA,sxB,Nat.reduceBEq,Nat.reduceEqDiff,reduceCtorEq,mxA,mxB,Nat.reduceAdd,reduceIte,Nat.reduceLeDiff,splice,Qe,Qg,w1,w2]
  rw[Qnk (ik:=.i64) (a:=((s.count 32+1:Nat):Int)) (b:=((s.length+1:Nat):Int)) (by simp only[uxA,uxB,Nat.reduceBEq]) (by simp only[uxA,uxB,Nat.reduceBEq])]
  rw[w3]
  rw[← hwl]
  generalize hN:(Qc s).length=N at *
  have hN1:1≤N:=by omega
  have w4:IntKind.i64.wrap ((N:Int) - 1)=((N - 1:Nat):Int):=by rw[w64 (by unfold I64;omega)];omega
  have c1:(0:Int)≤(N:Int)∧(N:Int)≤(N:Int)∧(16:Int) * (N:Int)≤281474976710656∧(N:Int)≤9223372036854775807:=by omega
  simp only[sxA,sxB,Nat.reduceBEq,Nat.reduceEqDiff,reduceCtorEq,mxA,mxB,Nat.reduceAdd,reduceIte,Nat.reduceLeDiff,splice,Int.toNat_natCast,w4]
  refine⟨c1,?_⟩
  generalize hE:H1.push _=H2
  obtain⟨e,z,hz,h2⟩:∃e z,z.length=N∧H2=H1.push (.cells z e false):=⟨_,_,by simp[Xn],hE.symm⟩
  clear hE
  have hx2:Ext H1 H2:=by rw[h2];exact(Ext.refl H1).push _
  have hg2:H2.get H1.next=some (.cells z e false):=by rw[h2,Qa.get_push,if_pos rfl]
  have hw2:H2.Wf:=by rw[h2];exact hw1.push _
  clear h2
  have hn2:=hx2.next
  have hlt:H1.next<H2.next:=hw2.lt hg2
  refine QC (fun m A' H'=>∃ (i:Nat) (s':List UInt8) (c:List Value),N=m+i∧1≤m∧H'.Wf∧H'.next=H2.next∧Ext H1 H'∧H'.get H1.next=some (.cells c e false)∧c.length=N∧c.take i=YU ((Qc s).take i)∧(Qc s).drop i=Qc s'∧s'.length≤s.length∧A' 0=.string (mkS s')∧A' 1=.string (mkS [32])∧A' 2=.int .i64 0∧A' 3=.int .i64 ((N - 1:Nat):Int)∧A' 9=.slice (some ⟨H1.next,0,none⟩) N N∧A' 10=.int .i64 i) N ?_ ?_
  ·refine⟨0,s,z,rfl,hN1,hw2,rfl,hx2,hg2,hz,by simp[YU],by simp,Nat.le_refl _,?_,?_,?_,?_,?_,?_⟩
   all_goals simp only[uxA,uxB,Nat.reduceBEq]
   all_goals rfl
  ·rintro m A' H3 ⟨i,s',c,hmi,hm1,hw3,hn3,hx3,hg3,hc,hct,hcd,hsl,r0,r1,r2,r3,r9,r10⟩
   have hws:(Qc s').length=m:=by
    have:=congrArg List.length hcd
    rw[List.length_drop,hN]at this
    omega
   have fin:∀ (ks:Kp) (k:Env→Qa→Prop) (A2:Env),A2 0=.string (mkS s')→A2 9=.slice (some ⟨H1.next,0,none⟩) N N→A2 10=.int .i64 i→m=1→ks.ret=(Rt prog Zq H1 fun u H'=>QhD H1 H' u N (YU (Qc s))∧Ext H1 H')→
     Qw prog (.seq (.ops [Om 58 (t 9),Om 59 (t 10),Om 60 (t 0),Ow 61 (.idxS 1 (t 58) (t 59)),Ov (.st 1 (t 61) (t 60))]) (.seq (.ops [Om 62 (t 9),Om 63 (t 10),Ow 64 (.bin .add (t 63) (Ci 1)),Ow 65 (.slS 1 (t 62) none (some (t 64))),Om 8 (t 65)]) .ret)) ks k A2 H3:=fun ks k A2 q0 q9 q10 hm hks=>by
    have hnone:∀d∈s',d≠32:=by
     have hcnt:s'.count 32=0:=by have:=Qex s';omega
     intro d hd hd2
     exact absurd hcnt (Nat.pos_iff_ne_zero.1 (List.count_pos_iff.2 (by rw[← hd2];exact hd)))
    have hlast:(Qc s).drop i=[s']:=by rw[hcd];exact GR s' hnone
    have c2:(0:Int)≤(i:Int)∧(i:Int)<(N:Int):=by omega
    have c3:(i:Int).toNat=i:=Int.toNat_natCast _
    have c4:i+1≤c.length:=by omega
    have ei:IntKind.i64.wrap ((i:Int)+1)=((i+1:Nat):Int):=by rw[w64 (by unfold I64;omega)];rfl
    have hs2:ZL 1 (.slice (some ⟨H1.next,0,none⟩) N N) none (some ((i+1:Nat):Int)) none=some (.slice (some ⟨H1.next,0,none⟩) N N):=by
     unfold ZL
     simp only[Option.getD_none,Option.getD_some]
     rw[if_neg (by unfold UNK;omega),if_pos (by omega)]
     have:(0:Nat)≠N:=by omega
     simp[Ne.symm this]
     omega
    simp only[sxA,sxB,Nat.reduceBEq,Nat.reduceEqDiff,reduceCtorEq,mxA,mxB,Nat.reduceAdd,reduceIte,Nat.reduceLeDiff,syA,q0,q9,q10,c2,c3,hg3,c4,ei,hs2,hks,Qax]
    refine .mk (by rw[Qa.next_set];omega) ⟨⟨H1.next,N,e,rfl,Nat.le_refl _,?_⟩,hx3.set (Nat.le_refl _) _⟩
    rw[Qa.get_set,if_pos rfl]
    congr 2
    have hsp:(splice c i [.string (mkS s')]).take i++(splice c i [.string (mkS s')]).drop i=YU (Qc s):=by
     rw[J4 (l:=[]) (by omega) (List.drop_eq_nil_of_le (by omega))]
     have h1:(splice c i [.string (mkS s')]).take i=c.take i:=by
      unfold splice
      rw[List.take_append_of_le_length (by rw[List.length_take];omega),List.take_take,Nat.min_self]
     rw[h1,hct]
     have h2:YU (Qc s)=YU ((Qc s).take i++(Qc s).drop i):=by rw[List.take_append_drop]
     rw[h2,hlast]
     simp[YU]
    rw[← hsp,List.take_append_drop]
   by_cases hi:i<N - 1
   ·have e4:decide ((i:Int)<((N - 1:Nat):Int))=true:=decide_eq_true (by omega)
    simp only[Yf,Jt,sxA,sxB,Nat.reduceBEq,Nat.reduceEqDiff,reduceCtorEq,mxA,mxB,Nat.reduceAdd,reduceIte,Nat.reduceLeDiff,splice,r0,r1,r2,r3,r9,r10,e4]
    refine(QlR s' 32 H3).thenW ?_
    rintro _ H4 _ hw4 ⟨rfl,rfl⟩
    have hge:=Lib.indexByte_ge s' 32
    by_cases hneg:Lib.indexByte s' 32<0
    ·exfalso
     have hnone:=QlT hneg
     rw[GR s' hnone]at hws
     simp at hws
     omega
    ·obtain⟨o,ho⟩:∃o:Nat,Lib.indexByte s' 32=o:=⟨(Lib.indexByte s' 32).toNat,by omega⟩
     obtain⟨ho1,ho2,ho3⟩:=QlU ho
     have e5:decide ((o:Int)<0)=false:=decide_eq_false (by omega)
     have w5:IntKind.i64.wrap ((o:Int)+0)=(o:Int):=w64 (by unfold I64;omega)
     have w6:IntKind.i64.wrap ((o:Int)+((1:Nat):Int))=((o+1:Nat):Int):=by rw[w64 (by unfold I64;omega)];rfl
     have ei:IntKind.i64.wrap ((i:Int)+1)=((i+1:Nat):Int):=by rw[w64 (by unfold I64;omega)];rfl
     have c2:(0:Int)≤(i:Int)∧(i:Int)<(N:Int):=by omega
     have c3:(i:Int).toNat=i:=Int.toNat_natCast _
     have c4:i+1≤c.length:=by omega
     rw[ho]
     simp only[Js,sxA,sxB,Nat.reduceBEq,Nat.reduceEqDiff,reduceCtorEq,mxA,mxB,Nat.reduceAdd,reduceIte,Nat.reduceLeDiff,splice,r0,r1,r2,r3,r9,r10,e5,w5]
     rw[QfM (s:=mkS s') (h:=o) (ik:=.i64) (by kernel_rfl) (by simp only[uxA,uxB,Nat.reduceBEq,r0]) (by simp only[uxA,uxB,Nat.reduceBEq]) (by rw[Qg];omega)]
     simp only[sxA,sxB,Nat.reduceBEq,Nat.reduceEqDiff,reduceCtorEq,mxA,mxB,Nat.reduceAdd,reduceIte,Nat.reduceLeDiff,syA,Qe,r0,r1,r2,r9,r10,c2,c3,hg3,c4,w6]
     rw[QfL (s:=mkS s') (l:=o+1) (ik:=.i64) (by kernel_rfl) (by simp only[uxA,uxB,Nat.reduceBEq,r0]) (by simp only[uxA,uxB,Nat.reduceBEq]) (by rw[Qg];omega)]
     simp only[sxA,sxB,Nat.reduceBEq,Nat.reduceEqDiff,reduceCtorEq,mxA,mxB,Nat.reduceAdd,reduceIte,Nat.reduceLeDiff,splice,syA,r10,ei]
     have hwd:Qc s'=s'.take o::Qc (s'.drop (o+1)):=by
      have:=VN (s'.take o) (s'.drop (o+1)) ho3
      rw[← ho2]at this
      exact this
     have hwi:(Qc s)[i]? = some (s'.take o):=by
      have h5:((Qc s).drop i)[0]? = some (s'.take o):=by rw[hcd,hwd];rfl
      rwa [List.getElem?_drop]at h5
     refine⟨m - 1,by omega,i+1,s'.drop (o+1),splice c i [.string (mkS (s'.take o))],by omega,by omega,hw4.set hg3 _,by rw[Qa.next_set];exact hn3,hx3.set (Nat.le_refl _) _,(by rw[Qa.get_set,if_pos rfl];rfl),by rw[Wz (by simp;omega)];exact hc,?_,?_,by rw[List.length_drop];omega,?_,?_,?_,?_,?_,?_⟩
     ·have h1:(splice c i [.string (mkS (s'.take o))]).take (i+1)=c.take i++[.string (mkS (s'.take o))]:=by
       unfold splice
       rw[List.take_append,List.length_take,Nat.min_eq_left (by omega),show i+1 - i=1 by omega,List.take_take,Nat.min_eq_right (by omega)];rfl
      rw[h1,hct,List.take_add_one,hwi]
      simp[YU]
     ·have h6:(Qc s).drop (i+1)=((Qc s).drop i).drop 1:=by rw[List.drop_drop]
      rw[h6,hcd,hwd];rfl
     all_goals simp only[uxA,uxB,Nat.reduceBEq,r1,r2,r3,r9]
   ·have e4:decide ((i:Int)<((N - 1:Nat):Int))=false:=decide_eq_false (by omega)
    simp only[Yf,sxA,sxB,Nat.reduceBEq,Nat.reduceEqDiff,reduceCtorEq,mxA,mxB,Nat.reduceAdd,reduceIte,Nat.reduceLeDiff,splice,r3,r10,e4]
    have hf:=fin ⟨Rt prog Zq H1 fun u H'=>QhD H1 H' u N (YU (Qc s))∧Ext H1 H',Qa0⟩ (Rt prog Zq H1 fun u H'=>QhD H1 H' u N (YU (Qc s))∧Ext H1 H') (upd (upd (upd A' 34 (A' 10)) 35 (A' 3)) 36 (.bool false)) (by simp only[uxA,uxB,Nat.reduceBEq,r0]) (by simp only[uxA,uxB,Nat.reduceBEq,r9]) (by simp only[uxA,uxB,Nat.reduceBEq,r10]) (by omega) rfl
    simp only[sxA,sxB,Nat.reduceBEq,Nat.reduceEqDiff,reduceCtorEq,mxA,mxB,Nat.reduceAdd,reduceIte,Nat.reduceLeDiff,splice,r0,r3,r9,r10]at hf ⊢
    exact hf
 refine hG.thenW ?_
 rintro u H1 _ hw1 ⟨h1,hx⟩
 simp only[sxA,sxB,Nat.reduceBEq,Nat.reduceEqDiff,reduceCtorEq,mxA,mxB,Nat.reduceAdd,reduceIte,Nat.reduceLeDiff,splice,Qb4]
 exact .mk hx.next ⟨h1,hx⟩
def Gs (size:Nat) (e:TypeId) (H0 H:Qa) (v:Value) (n:Nat) (cs:List Value):Prop:=(v=.slice none 0 0∧n=0∧cs=[])∨∃b,v=.slice (some ⟨b,0,none⟩) n (UNK+size)∧H0.next≤b∧H.get b=some (.cells cs e false)∧cs.length=n * size
def Qr (v:Value) (id:Nat):Prop:=∃o n c,v=.slice (some ⟨id,o,none⟩) n c
theorem Gs.ext {size:Nat} {e:TypeId} {H0 H H':Qa} {v:Value} {n:Nat} {cs:List Value} (h:Gs size e H0 H v n cs) (hk:∀id,Qr v id→H'.get id=H.get id):Gs size e H0 H' v n cs:=by
 rcases h with h | ⟨b,rfl,h2,h3,h4⟩
 ·exact .inl h
 ·exact .inr ⟨b,rfl,h2,by rw[hk b ⟨_,_,_,rfl⟩];exact h3,h4⟩
theorem Gs.low {size:Nat} {e:TypeId} {H0 H:Qa} {v:Value} {n:Nat} {cs:List Value} (h:Gs size e H0 H v n cs) (hw:H.Wf) {id:Nat} (hi:Qr v id):H0.next≤id∧id<H.next:=by
 obtain⟨o,n',c,rfl⟩:=hi
 rcases h with⟨h,_,_⟩ | ⟨b,h,h2,h3,h4⟩
 ·cases h
 ·cases h;exact⟨h2,hw.lt h3⟩
theorem QcK {size:Nat} {e bytes:Nat} {H0 H:Qa} {v x:Value} {n m:Nat} {cs ms:List Value} {k:Value→Qa→Prop} (hs:Gs size e H0 H v n cs) (hx:Ext H0 H) (hw:H.Wf) (hsrc:VB size x H=some (m,ms)) (hone:ms.all (·.oneCell')=true) (hm:1≤m) (hml:ms.length=m * size) (hb:(n+m) * bytes≤140737488355328) (hn:n+m≤9223372036854775807)
  (h:∀v' H',Gs size e H0 H' v' (n+m) (cs++ms)→Ext H0 H'→H'.Wf→(∀id,id<H.next→¬Qr v id→H'.get id=H.get id)→H'.next=H.next+1→(∀id,Qr v' id→id=H.next)→k v' H'):Qe9 e size bytes v x H k:=by
 have hnn:=hx.next
 rcases hs with⟨rfl,rfl,rfl⟩ | ⟨b,rfl,h2,h3,h4⟩
 ·refine QlI hsrc hone (by omega) (by rw[Nat.zero_add]at hb;exact hb) (by omega) (h _ _ (.inr ⟨H.next,by rw[Nat.zero_add],hnn,by rw[Qa.get_push,if_pos rfl,List.nil_append],by rw[List.nil_append,Nat.zero_add];exact hml⟩) (hx.push _) (hw.push _) (fun id hid _=>by rw[Qa.get_push,if_neg (by omega)]) (by rw[Qa.next_push]) ?_)
  rintro id ⟨o,n',c,he⟩
  cases he;rfl
 ·have hbl:=hw.lt h3
  refine QlH rfl hsrc hone (by omega) h3 (by rw[Nat.zero_add];omega) hb hn (by omega) (h _ _ (.inr ⟨H.next,rfl,hnn,?_,by rw[List.length_append,h4,hml,Nat.add_mul]⟩) ?_ ?_ ?_ (by rw[Qa.next_push,Qa.next_kill]) ?_)
  ·rw[Qa.get_push,Qa.next_kill,if_pos rfl,List.drop_zero]
  ·refine⟨by rw[Qa.next_push,Qa.next_kill];omega,fun id hid=>?_⟩
   rw[Qa.get_push,Qa.next_kill,if_neg (by omega),Qa.get_kill,if_neg (by omega)]
   exact hx.get id hid
  ·exact(hw.kill b).push _
  ·intro id hid hnb
   have hne:¬id=b:=fun h=>hnb ⟨_,_,_,by rw[h]⟩
   rw[Qa.get_push,Qa.next_kill,if_neg (by omega),Qa.get_kill,if_neg hne]
  ·rintro id ⟨o,n',c,he⟩
   cases he;rfl
theorem Vu {size m b:Nat} {cap:Nat} {c:List Value} {e:TypeId} {ro:Bool} {H:Qa} (hb:H.get b=some (.cells c e ro)) (hm:m≠0) (hc:c.length=m * size):VB size (.slice (some ⟨b,0,none⟩) m cap) H=some (m,c):=by
 rw[Qjs hb hm (by omega),List.drop_zero,List.take_of_length_le (by omega)]
theorem QeF (n:Int):I64 (IntKind.i64.wrap n):=by rw[IntKind.wrap_i64];unfold I64;omega
theorem QfT:∀ (l:List UInt8) (p k:Nat) (acc:BitVec 64),I64 (QaF l p k acc).n
 | [],p,k,acc=>by unfold QaF V2 I64;simp
 | c::l,p,k,acc=>by
  have h0:∀e p,I64 (V2 e p).n:=fun e p=>by unfold V2 I64;simp
  unfold QaF
  cases c==39 with
  | true=>
   cases Nat.beq k 0 with
   | true=>exact h0 _ _
   | false=>
    show I64 acc.toInt
    rw[← QeB];exact QeF _
  | false=>
   cases(Nat.blt c.toNat 32||Nat.blt 126 c.toNat) with
   | true=>exact h0 _ _
   | false=>
    cases Nat.beq k 8 with
    | true=>exact h0 _ _
    | false=>exact QfT l _ _ _
theorem QfU (s:List UInt8) (a:Nat):I64 (WR s a).n:=by
 have h0:∀e p,I64 (V2 e p).n:=fun e p=>by unfold V2 I64;simp
 unfold WR
 split
 ·exact h0 _ _
 ·rename_i c r _
  cases c==39 with
  | true=>exact QfT _ _ _ _
  | false=>
   cases Nat.blt 9 (YE c.toNat) with
   | true=>exact h0 _ _
   | false=>
    show I64 (match QeA _ with | .inl (e,p)=>(⟨0,0,e,_⟩:Sc) | .inr n=>⟨IntKind.i64.wrap n,_,0,0⟩).n
    split
    ·unfold I64;simp
    ·exact QeF _
def okW (w:List UInt8):Bool:=(WR (Gh w [45]) 0).err==0&&(WR (Gh w [45]) 0).e==((Gh w [45]).length:Int)
def Qh (w:List UInt8):Int:=if okW w then(if w.take 1==[45] then IntKind.i64.wrap (-(WR (Gh w [45]) 0).n) else(WR (Gh w [45]) 0).n) else 0
theorem QaH (w:List UInt8):I64 (Qh w):=by
 unfold Qh
 split
 ·split
  ·exact QeF _
  ·exact QfU _ _
 ·unfold I64;omega
theorem Ql3 (w p:List UInt8):(Gh w p).length≤w.length:=by
 unfold Gh
 split
 ·rw[List.length_drop];omega
 ·exact Nat.le_refl _
theorem Qcb (w:List UInt8) (hl:w.length≤1000000) (H:Qa):Qf prog WA [.string (mkS w)] H fun u H'=>u=.int .i64 (Qh w)∧Ext H H':=by
 refine Qb5 fun hw=>?_
 have hcl:=Ql3 w [45]
 simp only[GG,sxA,sxB,Nat.reduceBEq,Nat.reduceEqDiff,reduceCtorEq,mxA,mxB,Nat.reduceAdd,reduceIte,Nat.reduceLeDiff,splice]
 refine(QhC w [45] hl (by decide) H).thenW ?_
 rintro _ H1 _ hw1 ⟨rfl,rfl⟩
 simp only[sxA,sxB,Nat.reduceBEq,Nat.reduceEqDiff,reduceCtorEq,mxA,mxB,Nat.reduceAdd,reduceIte,Nat.reduceLeDiff,splice]
 refine(QeE (Gh w [45]) (by omega) 0 (by decide) H1).thenW ?_
 rintro _ H2 _ hw2 ⟨rfl,hx2⟩
 have hi:=QfU (Gh w [45]) 0
 have hx3:∀c e,Ext H1 ((H2.push (.cells c e false)).set H2.next (.cells c e false)):=fun c e=>(hx2.push _).set hx2.next _
 have hnn:=hx2.next
 unfold Qh okW
 generalize WR (Gh w [45]) 0=sc at *
 obtain⟨n,e,err,at_⟩:=sc
 simp only[Sc.val,Qoy,sxA,sxB,Nat.reduceBEq,Nat.reduceEqDiff,reduceCtorEq,mxA,mxB,Nat.reduceAdd,reduceIte,Nat.reduceLeDiff,splice]
 have fin:∀A:Env,A 4=.bool (w.take 1==[45])→A 5=.int .i64 n→(err==0&&e==((Gh w [45]).length:Int))=true→∀H3,Ext H1 H3→Qw prog Xs ⟨Rt prog Vn H1 fun u H'=>u=.int .i64 (if(err==0&&e==((Gh w [45]).length:Int))=true then(if(w.take 1==[45])=true then IntKind.i64.wrap (-n) else n) else 0)∧Ext H1 H',Qa0⟩ (Rt prog Vn H1 fun u H'=>u=.int .i64 (if(err==0&&e==((Gh w [45]).length:Int))=true then(if(w.take 1==[45])=true then IntKind.i64.wrap (-n) else n) else 0)∧Ext H1 H') A H3:=fun A q4 q5 hok H3 hx3=>by
  rw[if_pos hok]
  cases hb:w.take 1==[45] with
  | true=>
   rw[hb]at q4
   simp only[Xs,sxA,sxB,Nat.reduceBEq,Nat.reduceEqDiff,reduceCtorEq,mxA,mxB,Nat.reduceAdd,reduceIte,Nat.reduceLeDiff,splice,q4,q5]
   rw[Qhz (ik:=.i64) (n:=n) (by simp only[uxA,uxB,Nat.reduceBEq])]
   simp only[sxA,sxB,Nat.reduceBEq,Nat.reduceEqDiff,reduceCtorEq,mxA,mxB,Nat.reduceAdd,reduceIte,Nat.reduceLeDiff,splice,XU]
   exact .mk hx3.next ⟨rfl,hx3⟩
  | false=>
   rw[hb]at q4
   simp only[Xs,sxA,sxB,Nat.reduceBEq,Nat.reduceEqDiff,reduceCtorEq,mxA,mxB,Nat.reduceAdd,reduceIte,Nat.reduceLeDiff,splice,q4,q5,XU]
   exact .mk hx3.next ⟨rfl,hx3⟩
 have hxe:∀c e c' e',Ext H1 ((H2.push (.cells c e false)).set H2.next (.cells c' e' false)):=fun c e c' e'=>(hx2.push _).set hx2.next _
 cases he:err==0 with
 | false=>
  rw[he,Bool.false_and]at fin
  simp only[sxA,sxB,Nat.reduceBEq,Nat.reduceEqDiff,reduceCtorEq,mxA,mxB,Nat.reduceAdd,reduceIte,Nat.reduceLeDiff,splice,he,Bool.false_and,Bool.false_eq_true,XU]
  exact .mk (by rw[Qa.next_set,Qa.next_push];omega) ⟨rfl,hxe _ _ _ _⟩
 | true=>
  cases hE:e==((Gh w [45]).length:Int) with
  | false=>
   simp only[sxA,sxB,Nat.reduceBEq,Nat.reduceEqDiff,reduceCtorEq,mxA,mxB,Nat.reduceAdd,reduceIte,Nat.reduceLeDiff,splice,Qe,Qg,he,hE,Bool.and_false,Bool.false_eq_true,XU]
   exact .mk (by rw[Qa.next_set,Qa.next_push];omega) ⟨rfl,hxe _ _ _ _⟩
  | true=>
   have hf:=fun A q4 q5=>fin A q4 q5 (by rw[he,hE];rfl)
   rw[he,hE]at hf
   simp only[sxA,sxB,Nat.reduceBEq,Nat.reduceEqDiff,reduceCtorEq,mxA,mxB,Nat.reduceAdd,reduceIte,Nat.reduceLeDiff,splice,Qe,Qg,he,hE]
   refine hf _ ?_ ?_ _ (hxe _ _ _ _)
   all_goals simp only[uxA,uxB,Nat.reduceBEq]
structure BAt (H0 H:Qa) (D:Nat) (l:List UInt8) (p v:Value):Prop where
 get:H.get D=some (.cells [p,v] Q6 false)
 ptr:p=.pointer none∨p=.pointer (some ⟨D,0,none⟩)
 gs:Gs 1 5 H0 H v l.length (u8v l)
 low:H0.next≤D
 Gv:¬Qr v D
 wf:H.Wf
 ext:Ext H0 H
theorem Qdk {H0 H:Qa} {D:Nat} {l:List UInt8} {p v:Value} (hb:BAt H0 H D l p v):Qf prog QZ [.pointer (some ⟨D,0,none⟩)] H fun u H'=>u=.tuple #[]∧BAt H0 H' D l (.pointer (some ⟨D,0,none⟩)) v∧H'.next=H.next∧∀id,id≠D→H'.get id=H.get id:=by
 refine Kh fun hw=>?_
 obtain⟨hg,hp,hgs,hlow,hap,hwf,hx⟩:=hb
 simp only[X8,sxA,sxB,Nat.reduceBEq,Nat.reduceEqDiff,reduceCtorEq,mxA,mxB,Nat.reduceAdd,reduceIte,Nat.reduceLeDiff,splice,QI,hg]
 rcases hp with rfl | rfl
 ·rw[QfN (a:=none) (by kernel_rfl) (by simp only[uxA,uxB,Nat.reduceBEq])]
  simp only[sxA,sxB,Nat.reduceBEq,Nat.reduceEqDiff,reduceCtorEq,mxA,mxB,Nat.reduceAdd,reduceIte,Nat.reduceLeDiff,splice,Option.isNone_none]
  rw[QlK (b:=D) (o:=0) (by kernel_rfl) (by simp only[uxA,uxB,Nat.reduceBEq]) hg (by simp)]
  simp only[sxA,sxB,Nat.reduceBEq,Nat.reduceEqDiff,reduceCtorEq,mxA,mxB,Nat.reduceAdd,reduceIte,Nat.reduceLeDiff,splice]
  refine QaV Qca (args:=[.pointer (some ⟨D,0,none⟩)]) (v:=.pointer (some ⟨D,0,none⟩)) rfl ?_
  simp only[sxA,sxB,Nat.reduceBEq,Nat.reduceEqDiff,reduceCtorEq,mxA,mxB,Nat.reduceAdd,reduceIte,Nat.reduceLeDiff,splice]
  rw[QiV (b:=D) (o:=0) (by kernel_rfl) (by simp only[uxA,uxB,Nat.reduceBEq]) hg]
  simp only[sxA,sxB,Nat.reduceBEq,Nat.reduceEqDiff,reduceCtorEq,mxA,mxB,Nat.reduceAdd,reduceIte,Nat.reduceLeDiff,splice,QI,hg,Qeu,Qdh,XL]
  refine .mk (by rw[Qa.next_set];exact Nat.le_refl _) ⟨rfl,⟨by rw[Qa.get_set,if_pos rfl],.inr rfl,hgs.ext fun id hid=>?_,hlow,hap,hwf.set hg _,hx.set hlow _⟩,by rw[Qa.next_set],fun id hid=>by rw[Qa.get_set,if_neg hid]⟩
  have:id≠D:=fun h=>hap (by rw[← h];exact hid)
  rw[Qa.get_set,if_neg this]
 ·rw[QfN (a:=some ⟨D,0,none⟩) (by kernel_rfl) (by simp only[uxA,uxB,Nat.reduceBEq])]
  simp only[sxA,sxB,Nat.reduceBEq,Nat.reduceEqDiff,reduceCtorEq,mxA,mxB,Nat.reduceAdd,reduceIte,Nat.reduceLeDiff,splice,Option.isNone_some,QI,hg]
  rw[Qkr (b:=D) (o:=0) (by kernel_rfl) (by simp only[uxA,uxB,Nat.reduceBEq]) (by simp only[uxA,uxB,Nat.reduceBEq])]
  simp only[sxA,sxB,Nat.reduceBEq,Nat.reduceEqDiff,reduceCtorEq,mxA,mxB,Nat.reduceAdd,reduceIte,Nat.reduceLeDiff,splice,XL]
  exact .mk (Nat.le_refl _) ⟨rfl,⟨hg,.inr rfl,hgs,hlow,hap,hwf,hx⟩,rfl,fun _ _=>rfl⟩
theorem QjC {H0 H:Qa} {D:Nat} {l m:List UInt8} {v x:Value} {k:Value→Qa→Prop} (hb:BAt H0 H D l (.pointer (some ⟨D,0,none⟩)) v) (hsrc:VB 1 x H=some (m.length,u8v m)) (hm:1≤m.length) (hl:l.length+m.length≤140737488355328)
  (h:∀v' H',H'.get D=some (.cells [.pointer (some ⟨D,0,none⟩),v] Q6 false)→BAt H0 (H'.set D (.cells [.pointer (some ⟨D,0,none⟩),v'] Q6 false)) D (l++m) (.pointer (some ⟨D,0,none⟩)) v'→(∃b n c,v'=.slice (some ⟨b,0,none⟩) n c)→H'.next=H.next+1→k v' H'):Qe9 5 1 1 v x H k:=by
 obtain⟨hg,hp,hgs,hlow,hap,hwf,hx⟩:=hb
 have hD:=hwf.lt hg
 refine QcK hgs hx hwf hsrc (Qnq m) hm (by rw[VM];omega) (by omega) (by omega) ?_
 intro v' H' hgs' hx' hw' hk hn hnew
 have hgD:H'.get D=some (.cells [.pointer (some ⟨D,0,none⟩),v] Q6 false):=by rw[hk D hD hap];exact hg
 have hapD:¬Qr v' D:=fun hi=>by have:=hnew D hi;omega
 refine h v' H' hgD ⟨by rw[Qa.get_set,if_pos rfl],.inr rfl,?_,hlow,hapD,hw'.set hgD _,hx'.set hlow _⟩ ?_ hn
 ·have e1:u8v (l++m)=u8v l++u8v m:=by simp[u8v]
  rw[e1,List.length_append]
  refine hgs'.ext fun id hid=>?_
  have:id≠D:=fun h=>hapD (by rw[← h];exact hid)
  rw[Qa.get_set,if_neg this]
 ·rcases hgs' with⟨_,h0,_⟩ | ⟨b,hb,_⟩
  ·omega
  ·exact⟨b,_,_,hb⟩
theorem Qfg {H0 H:Qa} {D:Nat} {l m:List UInt8} {p v:Value} (hb:BAt H0 H D l p v) (hm:1≤m.length) (hl:l.length+m.length≤140737488355328):Qf prog Wk [.pointer (some ⟨D,0,none⟩),.string (mkS m)] H fun u H'=>(∃x y,u=.tuple #[x,y])∧∃p' v',BAt H0 H' D (l++m) p' v':=by
 refine JH fun hw=>?_
 simp only[XE,sxA,sxB,Nat.reduceBEq,Nat.reduceEqDiff,reduceCtorEq,mxA,mxB,Nat.reduceAdd,reduceIte,Nat.reduceLeDiff,splice]
 refine(Qdk hb).thenW ?_
 rintro _ H1 _ hw1 ⟨rfl,hb1,hn1,_⟩
 have hg1:=hb1.get
 simp only[sxA,sxB,Nat.reduceBEq,Nat.reduceEqDiff,reduceCtorEq,mxA,mxB,Nat.reduceAdd,reduceIte,Nat.reduceLeDiff,splice,QI,hg1]
 refine QjC hb1 (m:=m) (by simp[VB,W0,QaN,u8v,mkS,ByteArray.size]) hm hl ?_
 intro v' H' hgD hb' ⟨b,n,c,hv'⟩ hn'
 subst hv'
 have hn2:=hb'.ext.next
 rw[Qa.next_set]at hn2
 simp only[sxA,sxB,Nat.reduceBEq,Nat.reduceEqDiff,reduceCtorEq,mxA,mxB,Nat.reduceAdd,reduceIte,Nat.reduceLeDiff,splice,QI,hgD,Qe,Z9]
 exact .mk (by rw[Qa.next_set];omega) ⟨⟨_,_,rfl⟩,_,_,hb'⟩
theorem Qdl {H0 H:Qa} {D:Nat} {l:List UInt8} {p v:Value} (hb:BAt H0 H D l p v) (c:UInt8) (hl:l.length+1≤140737488355328):Qf prog QY [.pointer (some ⟨D,0,none⟩),.int .u8 (c.toNat:Int)] H fun u H'=>u=.nilIface∧∃p' v',BAt H0 H' D (l++[c]) p' v':=by
 refine Kg fun hw=>?_
 simp only[X7,sxA,sxB,Nat.reduceBEq,Nat.reduceEqDiff,reduceCtorEq,mxA,mxB,Nat.reduceAdd,reduceIte,Nat.reduceLeDiff,splice]
 refine(Qdk hb).thenW ?_
 rintro _ H1 _ hw1 ⟨rfl,hb1,hn1,_⟩
 have hg1:=hb1.get
 have hD:=hw1.lt hg1
 simp only[sxA,sxB,Nat.reduceBEq,Nat.reduceEqDiff,reduceCtorEq,mxA,mxB,Nat.reduceAdd,reduceIte,Nat.reduceLeDiff,splice,QI,hg1]
 have hb2:BAt H0 (H1.push (.cells [.int .u8 (c.toNat:Int)] 5 false)) D l (.pointer (some ⟨D,0,none⟩)) v:=by
  obtain⟨hg,hp,hgs,hlow,hap,hwf,hx⟩:=hb1
  exact⟨by rw[Qa.get_push,if_neg (by omega)];exact hg,hp,hgs.ext fun id hid=>by have:=hgs.low hwf hid;rw[Qa.get_push,if_neg (by omega)],hlow,hap,hwf.push _,hx.push _⟩
 refine QjC hb2 (m:=[c]) (QlG (by rw[Qa.get_push,if_pos rfl])) (by simp) (by simpa using hl) ?_
 intro v' H' hgD hb' ⟨b,n,cc,hv'⟩ hn'
 subst hv'
 have hn2:=hb'.ext.next
 rw[Qa.next_set]at hn2
 rw[Qa.next_push]at hn'
 simp only[sxA,sxB,Nat.reduceBEq,Nat.reduceEqDiff,reduceCtorEq,mxA,mxB,Nat.reduceAdd,reduceIte,Nat.reduceLeDiff,splice,QI,hgD,JU]
 exact .mk (by rw[Qa.next_set];omega) ⟨rfl,_,_,hb'⟩
theorem QoE (l:List UInt8):(u8v l).all Qk4=true:=by
 rw[List.all_eq_true]
 intro v hv
 obtain⟨b,_,rfl⟩:=List.mem_map.1 hv
 have:=b.toNat_lt
 simp[Qk4]
 omega
theorem Qkz {H0 H:Qa} {D:Nat} {l:List UInt8} {p v:Value} (hb:BAt H0 H D l p v) (h1:1≤l.length) (hl:l.length≤140737488355328):Qf prog Xj [.pointer (some ⟨D,0,none⟩)] H fun u H'=>u=.string (mkS l)∧Ext H0 H':=by
 refine Gp fun hw=>?_
 obtain⟨hg,hp,hgs,hlow,hap,hwf,hx⟩:=hb
 simp only[YN,sxA,sxB,Nat.reduceBEq,Nat.reduceEqDiff,reduceCtorEq,mxA,mxB,Nat.reduceAdd,reduceIte,Nat.reduceLeDiff,splice,QI,hg]
 have hn:=hx.next
 rcases hgs with⟨rfl,h0,_⟩ | ⟨b,rfl,h2,h3,h4⟩
 ·omega
 ·have e:(l.length:Int)=((u8v l).length:Int):=by rw[VM]
  rw[QiW (a:=some ⟨b,0,none⟩) (n:=l.length) (c:=UNK+1) (by simp only[uxA,uxB,Nat.reduceBEq]) (.inr (by omega))]
  simp only[sxA,sxB,Nat.reduceBEq,Nat.reduceEqDiff,reduceCtorEq,mxA,mxB,Nat.reduceAdd,reduceIte,Nat.reduceLeDiff,splice,QI,hg,Qb]
  rw[Qks (e:=5) (b:=b) (by kernel_rfl) (by simp only[uxA,uxB,Nat.reduceBEq]) (by simp only[uxA,uxB,Nat.reduceBEq];rw[e]) h3 (by rw[VM];omega) (by rw[VM];omega) (QoE l) (ZD l)]
  simp only[sxA,sxB,Nat.reduceBEq,Nat.reduceEqDiff,reduceCtorEq,mxA,mxB,Nat.reduceAdd,reduceIte,Nat.reduceLeDiff,splice,K9]
  exact .mk (by rw[Qa.next_set];exact Nat.le_refl _) ⟨rfl,hx.set h2 _⟩
structure Tz (T:Qa→Prop):Prop where
 q:Tq T
 pow:Qoz T
theorem Vv {n:Int} (hn:I64 n):(Yn n).length≤19:=by
 unfold Yn GQ
 have:=QcJ 15 n.natAbs (by unfold I64 at hn;omega)
 rw[List.length_append,List.length_append]
 split<;>simp<;>omega
def VO (n:Int):List UInt8:=[111,114,103,32]++Yn n
theorem QfV {T:Qa→Prop} (hT:Tz T) (n:Int) (hn:I64 n) (H:Qa) (hTH:T H):Qf prog Yh [.int .i64 n] H fun u H'=>u=.string (mkS (VO n))∧Ext H H':=by
 refine Qbw fun hw=>?_
 have hl:=Vv hn
 simp only[K5,sxA,sxB,Nat.reduceBEq,Nat.reduceEqDiff,reduceCtorEq,mxA,mxB,Nat.reduceAdd,reduceIte,Nat.reduceLeDiff,splice]
 refine(G3 hT.q n hn H hTH).thenW ?_
 rintro _ H1 _ hw1 ⟨rfl,hx⟩
 simp only[sxA,sxB,Nat.reduceBEq,Nat.reduceEqDiff,reduceCtorEq,mxA,mxB,Nat.reduceAdd,reduceIte,Nat.reduceLeDiff,splice,syA,Qa1]
 exact⟨(by first | omega | (simp only[List.length_append,List.length_cons,List.length_nil];omega)),.mk hx.next ⟨rfl,hx⟩⟩
structure Sy where
 name:List UInt8
 n:Int
 here:Bool
def Sy.cells (s:Sy):List Value:=[.string (mkS s.name),.int .i64 s.n,.bool s.here]
def Qba (s:Sy):List UInt8:=[115,121,109,32]++s.name++[32]++Yn s.n++(if s.here then[32,104,101,114,101] else[32,99,111,110,115,116])
theorem QfW {T:Qa→Prop} (hT:Tz T) (s:Sy) (hn:I64 s.n) (hl:s.name.length≤1000000) (H:Qa) (hTH:T H):Qf prog Yi [.agg s.cells.toArray] H fun u H'=>u=.string (mkS (Qba s))∧Ext H H':=by
 refine Qbx fun hw=>?_
 have hll:=Vv hn
 simp only[K6,sxA,sxB,Nat.reduceBEq,Nat.reduceEqDiff,reduceCtorEq,mxA,mxB,Nat.reduceAdd,reduceIte,Nat.reduceLeDiff,splice,Sy.cells]
 generalize hE:H.push _=H1
 obtain⟨e,h1⟩:∃e,H1=H.push (.cells s.cells e false):=⟨_,hE.symm⟩
 clear hE
 have hx1:Ext H H1:=by rw[h1];exact(Ext.refl H).push _
 have hg1:H1.get H.next=some (.cells [.string (mkS s.name),.int .i64 s.n,.bool s.here] e false):=by rw[h1,Qa.get_push,if_pos rfl];rfl
 clear h1
 have hT1:=hT.q.ext _ _ hw hTH hx1
 have hbel:QH H1.next 6 (.string (mkS s.name))=true:=rfl
 unfold Qba
 cases hh:s.here
 all_goals
  rw[hh]at hg1
  simp only[sxA,sxB,Nat.reduceBEq,Nat.reduceEqDiff,reduceCtorEq,mxA,mxB,Nat.reduceAdd,reduceIte,Nat.reduceLeDiff,splice,syA,hg1,hbel]
  refine⟨by omega,by omega,?_⟩
  refine(G3 hT.q s.n hn H1 hT1).thenW ?_
  rintro _ H2 _ hw2 ⟨rfl,hx2⟩
  have hx3:=hx1.trans hx2
  simp only[sxA,sxB,Nat.reduceBEq,Nat.reduceEqDiff,reduceCtorEq,mxA,mxB,Nat.reduceAdd,reduceIte,Nat.reduceLeDiff,splice,syA,Qa2]
  refine⟨hx2.get,(by first | omega | (simp only[List.length_append,List.length_cons,List.length_nil];omega)),(by first | omega | (simp only[List.length_append,List.length_cons,List.length_nil];omega)),.mk hx3.next ⟨by simp,hx3⟩⟩
structure Mk where
 line:Int
 at_:Int
 size:Int
def Mk.cells (m:Mk):List Value:=[.int .i64 m.line,.int .i64 m.at_,.int .i64 m.size]
def XK (b:List UInt8):List UInt8:=b.flatMap fun c=>[Qs (c.toNat / 16),Qs (c.toNat % 16)]
def J5 (line at_:Int) (b:List UInt8):List UInt8:=[109,97,114,107,32]++Z7 line++[32]++Yn at_++[32]++XK b
theorem QcN:∀ (n u:Nat),u<10 ^ (n+1)→(dgs 10 u).length≤n+1
 | 0,u,h=>by rw[Gg (by omega)];simp
 | n+1,u,h=>by
  by_cases h10:10≤u
  ·rw[QaD h10 (by decide),List.length_append]
   have:=QcN n (u / 10) (by rw[Nat.pow_succ]at h;omega)
   simp only[List.length_cons,List.length_nil]
   omega
  ·rw[Gg (by omega)];simp
theorem Ql4 (d:Nat) (h:d<16):([48,49,50,51,52,53,54,55,56,57,97,98,99,100,101,102]:List UInt8)[d]? = some (Qs d):=by
 have:∀d,d<16→([48,49,50,51,52,53,54,55,56,57,97,98,99,100,101,102]:List UInt8)[d]? = some (Qs d):=by decide
 exact this d h
theorem nib (c:Nat) (h:c<256):(c:Int).fdiv (2 ^ (min (4:Int).toNat IntKind.u8.bits))=((c / 16:Nat):Int)∧IntKind.u8.wrap ((BitVec.ofInt IntKind.u8.bits (c:Int) &&& BitVec.ofInt IntKind.u8.bits 15).toNat:Int)=((c % 16:Nat):Int):=by
 have hk:((List.range 256).all fun c=>decide ((c:Int).fdiv (2 ^ (min (4:Int).toNat IntKind.u8.bits))=((c / 16:Nat):Int))&&decide (IntKind.u8.wrap ((BitVec.ofInt IntKind.u8.bits (c:Int) &&& BitVec.ofInt IntKind.u8.bits 15).toNat:Int)=((c % 16:Nat):Int)))=true:=by kernel_rfl
 have:=List.all_eq_true.1 hk c (List.mem_range.2 h)
 simp only[Bool.and_eq_true,decide_eq_true_eq]at this
 exact this
def SlO (H:Qa) (v:Value) (n:Nat) (cs:List Value):Prop:=∃a cap,v=.slice a n cap∧(0<n→∃b o c e ro,a=some ⟨b,o,none⟩∧H.get b=some (.cells c e ro)∧∀i,i<n→c[o+i]? = cs[i]?)
theorem YD.slO {H:Qa} {v:Value} {n:Nat} {cs:List Value} (h:YD H v n cs):SlO H v n cs:=by
 obtain⟨a,cap,rfl,h1⟩:=h
 refine⟨a,cap,rfl,fun hn=>?_⟩
 obtain⟨b,e,ro,rfl,hb⟩:=h1 hn
 exact⟨b,0,cs,e,ro,rfl,hb,fun i _=>by rw[Nat.zero_add]⟩
theorem QeG {T:Qa→Prop} (hT:Tz T) (m:Mk) (line:Nat) (hline:m.line=line) (hln:line<1048577) (hat:I64 m.at_) (b:List UInt8) (bv:Value) (hbl:b.length≤1048576) (H:Qa) (hTH:T H) (hb:SlO H bv b.length (u8v b)):
  Qf prog XS [.agg m.cells.toArray,bv] H fun u H'=>u=.string (mkS (J5 m.line m.at_ b))∧Ext H H':=by
 refine Qa3 fun hw=>?_
 have hll:=Vv hat
 have hdl:(Z7 (line:Int)).length≤7:=by
  have:Z7 (line:Int)=dgs 10 line:=by
   unfold Z7 GQ
   rw[if_neg (by omega)];rfl
  rw[this];exact QcN 6 line (by omega)
 obtain⟨a,cap,rfl,hbb⟩:=hb
 simp only[Kk,sxA,sxB,Nat.reduceBEq,Nat.reduceEqDiff,reduceCtorEq,mxA,mxB,Nat.reduceAdd,reduceIte,Nat.reduceLeDiff,splice,Mk.cells]
 generalize hE:Qa.push (Qa.push H _) _=H1
 obtain⟨e,h1⟩:∃e,H1=(H.push (.cells [.int .i64 m.line,.int .i64 m.at_,.int .i64 m.size] e false)).push (.cells [.pointer none,.slice none 0 0] Q6 false):=⟨_,hE.symm⟩
 clear hE
 have hx1:Ext H H1:=by rw[h1];exact((Ext.refl H).push _).push _
 have hw1:H1.Wf:=by rw[h1];exact(hw.push _).push _
 have hn1:H1.next=H.next+1+1:=by rw[h1,Qa.next_push,Qa.next_push]
 have hg1:H1.get H.next=some (.cells [.int .i64 m.line,.int .i64 m.at_,.int .i64 m.size] e false):=by rw[h1,Qa.get_push,Qa.next_push,if_neg (by omega),Qa.get_push,if_pos rfl]
 have hg2:H1.get (H.next+1)=some (.cells [.pointer none,.slice none 0 0] Q6 false):=by rw[h1,Qa.get_push,Qa.next_push,if_pos rfl]
 clear h1
 have hT1:=hT.q.ext _ _ hw hTH hx1
 rw[hline]at hg1 ⊢
 refine⟨by omega,?_⟩
 refine(Qff hT.q.ext hT.pow line hln H1 hT1).thenW ?_
 rintro _ H2 _ hw2 ⟨rfl,hx2⟩
 have hbel:QH H2.next 6 (.int .i64 m.at_)=true:=rfl
 have hg1':H2.get H.next=some (.cells [.int .i64 (line:Int),.int .i64 m.at_,.int .i64 m.size] e false):=by rw[hx2.get _ (by omega)];exact hg1
 have hT2:=hT.q.ext _ _ hw1 hT1 hx2
 simp only[sxA,sxB,Nat.reduceBEq,Nat.reduceEqDiff,reduceCtorEq,mxA,mxB,Nat.reduceAdd,reduceIte,Nat.reduceLeDiff,splice,syA,hg1',hbel]
 refine⟨hx2.get,(by first | omega | (simp only[List.length_append,List.length_cons,List.length_nil];omega)),(by first | omega | (simp only[List.length_append,List.length_cons,List.length_nil];omega)),?_⟩
 refine(G3 hT.q m.at_ hat H2 hT2).thenW ?_
 rintro _ H3 _ hw3 ⟨rfl,hx3⟩
 simp only[sxA,sxB,Nat.reduceBEq,Nat.reduceEqDiff,reduceCtorEq,mxA,mxB,Nat.reduceAdd,reduceIte,Nat.reduceLeDiff,splice,syA]
 refine⟨(by first | omega | (simp only[List.length_append,List.length_cons,List.length_nil];omega)),(by first | omega | (simp only[List.length_append,List.length_cons,List.length_nil];omega)),?_⟩
 have hx13:=hx2.trans hx3
 have hx03:=hx1.trans hx13
 have hB0:BAt H H3 (H.next+1) [] (.pointer none) (.slice none 0 0):=⟨by rw[hx13.get _ (by omega)];exact hg2,.inl rfl,.inl ⟨rfl,rfl,rfl⟩,by omega,(by rintro⟨o,n,c,h⟩;cases h),hw3,hx03⟩
 refine(Qfg hB0 (m:=[109,97,114,107,32]++Z7 (line:Int)++[32]++Yn m.at_++[32]) (by simp) (by simp;omega)).thenW ?_
 rintro _ H4 _ hw4 ⟨⟨x,y,rfl⟩,p4,v4,hB4⟩
 rw[List.nil_append]at hB4
 simp only[sxA,sxB,Nat.reduceBEq,Nat.reduceEqDiff,reduceCtorEq,mxA,mxB,Nat.reduceAdd,reduceIte,Nat.reduceLeDiff,splice,Qb]
 unfold J5
 generalize hP:[109,97,114,107,32]++Z7 (line:Int)++[32]++Yn m.at_++[32]=P at *
 have hPl:P.length≤40:=by rw[← hP];simp;omega
 have hP1:1≤P.length:=by rw[← hP];simp
 refine QC (fun q A' H'=>∃ (i:Nat) (p v:Value),q=b.length - i∧i≤b.length∧BAt H H' (H.next+1) (P++XK (b.take i)) p v∧A' 5=.pointer (some ⟨H.next+1,0,none⟩)∧A' 19=.slice a b.length cap∧A' 20=.int .i64 b.length∧A' 21=.int .i64 i) b.length ?_ ?_
 ·refine⟨0,p4,v4,rfl,Nat.zero_le _,by simpa[XK] using hB4,?_,?_,?_,?_⟩
  all_goals simp only[uxA,uxB,Nat.reduceBEq]
  all_goals rfl
 ·rintro q A' H5 ⟨i,p,v,rfl,hib,hB,r5,r19,r20,r21⟩
  have hpl:∀l:List UInt8,(XK l).length=2 * l.length:=fun l=>by
   unfold XK
   induction l with
   | nil=>rfl
   | cons c l ih=>rw[List.flatMap_cons,List.length_append,ih];simp;omega
  by_cases hi:i<b.length
  ·have e1:decide ((i:Int)<(b.length:Int))=true:=decide_eq_true (by omega)
   obtain⟨bb,ob,cb,eb,rob,rfl,hgb,hcb⟩:=hbb (by omega)
   have hbn:=hw.lt hgb
   have hg5:H5.get bb=some (.cells cb eb rob):=by rw[hB.ext.get _ hbn];exact hgb
   have c1:(0:Int)≤(i:Int)∧(i:Int)<(b.length:Int):=by omega
   have u0:(i:Int).toNat=i:=Int.toNat_natCast _
   have hp:=List.getElem?_eq_getElem hi
   have htk:b.take (i+1)=b.take i++[b[i]]:=by rw[List.take_add_one,hp];rfl
   have hv:cb[ob+i]? = some (.int .u8 (b[i].toNat:Int)):=by rw[hcb i hi];simp[u8v,hp]
   generalize b[i]=c at *
   have hc:=c.toNat_lt
   obtain⟨n1,n2⟩:=nib c.toNat hc
   have d1:=Ql4 (c.toNat / 16) (by omega)
   have d2:=Ql4 (c.toNat % 16) (by omega)
   have t1:(0:Int)≤((c.toNat / 16:Nat):Int):=Int.natCast_nonneg _
   have t2:(0:Int)≤((c.toNat % 16:Nat):Int):=Int.natCast_nonneg _
   have u1:((c.toNat / 16:Nat):Int).toNat=c.toNat / 16:=Int.toNat_natCast _
   have u2:((c.toNat % 16:Nat):Int).toNat=c.toNat % 16:=Int.toNat_natCast _
   have t4:(0:Int)≤4:=by decide
   have ei:IntKind.i64.wrap ((i:Int)+1)=((i+1:Nat):Int):=by rw[w64 (by unfold I64;omega)];rfl
   have hlen:(P++XK (b.take i)).length≤3000000:=by rw[List.length_append,hpl,List.length_take];omega
   simp only[Ye,Jo,sxA,sxB,Nat.reduceBEq,Nat.reduceEqDiff,reduceCtorEq,mxA,mxB,Nat.reduceAdd,reduceIte,Nat.reduceLeDiff,splice,r5,r19,r20,r21,e1,c1,decide_true,u0,hg5,hv,t4,n1,Qk,Qg,t1,u1,d1]
   refine(Qdl hB (Qs (c.toNat / 16)) (by omega)).thenW ?_
   rintro _ H6 _ hw6 ⟨rfl,p6,v6,hB6⟩
   simp only[sxA,sxB,Nat.reduceBEq,Nat.reduceEqDiff,reduceCtorEq,mxA,mxB,Nat.reduceAdd,reduceIte,Nat.reduceLeDiff,splice,r5,n2,Qk,Qg,t2,u2,d2]
   refine(Qdl hB6 (Qs (c.toNat % 16)) (by rw[List.length_append,List.length_singleton];omega)).thenW ?_
   rintro _ H7 _ hw7 ⟨rfl,p7,v7,hB7⟩
   simp only[sxA,sxB,Nat.reduceBEq,Nat.reduceEqDiff,reduceCtorEq,mxA,mxB,Nat.reduceAdd,reduceIte,Nat.reduceLeDiff,splice,r21,ei]
   refine⟨b.length - (i+1),by omega,i+1,p7,v7,rfl,by omega,?_,?_,?_,?_,?_⟩
   ·have e:P++XK (b.take (i+1))=P++XK (b.take i)++[Qs (c.toNat / 16)]++[Qs (c.toNat % 16)]:=by
     rw[htk];unfold XK;rw[List.flatMap_append];simp
    rw[e];exact hB7
   all_goals simp only[uxA,uxB,Nat.reduceBEq,r5,r19,r20]
  ·have e1:decide ((i:Int)<(b.length:Int))=false:=decide_eq_false (by omega)
   have hib2:i=b.length:=by omega
   subst hib2
   rw[List.take_length]at hB
   simp only[Ye,sxA,sxB,Nat.reduceBEq,Nat.reduceEqDiff,reduceCtorEq,mxA,mxB,Nat.reduceAdd,reduceIte,Nat.reduceLeDiff,splice,r5,r20,r21,e1]
   refine(Qkz hB (by rw[List.length_append];omega) (by rw[List.length_append,hpl];omega)).thenW ?_
   rintro _ H6 _ hw6 ⟨rfl,hx6⟩
   simp only[sxA,sxB,Nat.reduceBEq,Nat.reduceEqDiff,reduceCtorEq,mxA,mxB,Nat.reduceAdd,reduceIte,Nat.reduceLeDiff,splice,Qav]
   exact .mk hx6.next ⟨rfl,hx6⟩
def QgO:List UInt8→Option (List UInt8)
 | []=>some []
 | [_]=>none
 | a::b::l=>bif Nat.blt 15 (Xh a.toNat)||Nat.blt 15 (Xh b.toNat) then none else(QgO l).map (((16 * Xh a.toNat+Xh b.toNat).toUInt8)::·)
def Qcc (w:List UInt8):Option (List UInt8):=bif w.isEmpty||!Nat.beq (w.length % 2) 0 then none else QgO w
theorem Qnv (c:Nat):Xh c≤16:=by
 unfold Xh
 cases h1:Nat.ble 48 c&&Nat.ble c 57 with
 | true=>simp only[Bool.and_eq_true,Nat.ble_eq]at h1;simp;omega
 | false=>
  cases h2:Nat.ble 97 c&&Nat.ble c 102 with
  | true=>simp only[Bool.and_eq_true,Nat.ble_eq]at h2;simp;omega
  | false=>simp
end Go.Proofs.YthoanamkoigjeaaDoor.code
