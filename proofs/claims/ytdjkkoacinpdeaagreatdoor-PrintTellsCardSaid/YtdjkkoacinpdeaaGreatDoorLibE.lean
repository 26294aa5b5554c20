/- Places: the document's. -/
import Derived.Test.YtdjkkoacinpdeaaGreatDoorLibI
import Derived.Test.YtdjkkoacinpdeaaGreatDoorE4Reg
import Derived.Test.YtdjkkoacinpdeaaGreatDoorLibJ
import Derived.Test.YtdjkkoacinpdeaaGreatDoorE3Names
import Derived.Test.YtdjkkoacinpdeaaGreatDoorJ4Canon
import Derived.Test.YtdjkkoacinpdeaaGreatDoorLibO
set_option linter.unusedVariables false
set_option linter.unusedSimpArgs false
set_option maxRecDepth 100000
set_option maxHeartbeats 4000000
namespace Go.Proofs.YtdjkkoacinpdeaaGreatDoor.code
open Go.Ab
theorem Ja (r:Rg) (H:Qa):Qf prog Xw [.agg r.cells.toArray] H fun u H'=>u=.bool (isR r 0 0)∧∃k,H'=H.up k:=by
 refine Qc9 fun hw=>?_
 obtain⟨c,n⟩:=r
 simp(disch:=(first | omega | ((repeat (first | rw[Qa.next_push] | rw[Qa.next_set] | rw[Qa.next_up]));done) | ((repeat (first | rw[Qa.next_push] | rw[Qa.next_set] | rw[Qa.next_up]));omega))) only[Rg.cells,GI,sxA,sxB,Nat.reduceBEq,Nat.reduceEqDiff,reduceCtorEq,mxD,mxB,Nat.reduceAdd,reduceIte,Nat.reduceLeDiff,splice,Qi,Zn]
 repeat' (first
   | (refine Qp (fun h=>?_) (fun h=>?_)<;>(try simp only[Bool.not_eq_true',Bool.not_eq_false']at h)<;>simp(disch:=(first | omega | ((repeat (first | rw[Qa.next_push] | rw[Qa.next_set] | rw[Qa.next_up]));done) | ((repeat (first | rw[Qa.next_push] | rw[Qa.next_set] | rw[Qa.next_up]));omega))) only[sxA,sxB,Nat.reduceBEq,Nat.reduceEqDiff,reduceCtorEq,mxD,mxB,Nat.reduceAdd,reduceIte,Nat.reduceLeDiff,splice,Qi,Zn,h])
   | (refine Qe (fun h=>?_) (fun h=>?_)<;>(try simp only[Bool.not_eq_true',Bool.not_eq_false']at h)<;>simp(disch:=(first | omega | ((repeat (first | rw[Qa.next_push] | rw[Qa.next_set] | rw[Qa.next_up]));done) | ((repeat (first | rw[Qa.next_push] | rw[Qa.next_set] | rw[Qa.next_up]));omega))) only[sxA,sxB,Nat.reduceBEq,Nat.reduceEqDiff,reduceCtorEq,mxD,mxB,Nat.reduceAdd,reduceIte,Nat.reduceLeDiff,splice,Qi,Zn,h])
   | (with_reducible refine⟨by simp[Qn,plain],by omega,?_⟩)
   | (with_reducible refine⟨by simp[Qn,plain],?_⟩)
   | fail)
 all_goals refine .ext hw ?_ ⟨?_,_,rfl⟩
 all_goals try (repeat' (first | exact Ext.refl _ | refine Ext.push ?_ _ | refine Ext.up ?_ (by simp only[Qa.next_push,Qa.next_set,Qa.next_up];omega) | refine Ext.set ?_ (by omega) _))
 all_goals simp[isR]
theorem Vv (r:Rg) (H:Qa):Qf prog Yl [.agg r.cells.toArray] H fun u H'=>u=.bool (W8 r)∧∃k,H'=H.up k:=by
 refine Qdf fun hw=>?_
 have q1:=X0 r
 have hs:W8 r=((r.c==5)&&WW r):=rfl
 rw[hs]
 clear hs
 generalize WW r=v at *
 obtain⟨c,n⟩:=r
 simp only[Rg.cells]at q1
 simp(disch:=(first | omega | ((repeat (first | rw[Qa.next_push] | rw[Qa.next_set] | rw[Qa.next_up]));done) | ((repeat (first | rw[Qa.next_push] | rw[Qa.next_set] | rw[Qa.next_up]));omega))) only[Rg.cells,GM,sxA,sxB,Nat.reduceBEq,Nat.reduceEqDiff,reduceCtorEq,mxD,mxB,Nat.reduceAdd,reduceIte,Nat.reduceLeDiff,splice,XJ]
 repeat' (first
   | (refine Qp (fun h=>?_) (fun h=>?_)<;>(try simp only[Bool.not_eq_true',Bool.not_eq_false']at h)<;>simp(disch:=(first | omega | ((repeat (first | rw[Qa.next_push] | rw[Qa.next_set] | rw[Qa.next_up]));done) | ((repeat (first | rw[Qa.next_push] | rw[Qa.next_set] | rw[Qa.next_up]));omega))) only[sxA,sxB,Nat.reduceBEq,Nat.reduceEqDiff,reduceCtorEq,mxD,mxB,Nat.reduceAdd,reduceIte,Nat.reduceLeDiff,splice,XJ,h])
   | (refine Qe (fun h=>?_) (fun h=>?_)<;>(try simp only[Bool.not_eq_true',Bool.not_eq_false']at h)<;>simp(disch:=(first | omega | ((repeat (first | rw[Qa.next_push] | rw[Qa.next_set] | rw[Qa.next_up]));done) | ((repeat (first | rw[Qa.next_push] | rw[Qa.next_set] | rw[Qa.next_up]));omega))) only[sxA,sxB,Nat.reduceBEq,Nat.reduceEqDiff,reduceCtorEq,mxD,mxB,Nat.reduceAdd,reduceIte,Nat.reduceLeDiff,splice,XJ,h])
   | (refine(q1 _).thenW ?_;rintro _ _ hn hw2 ⟨rfl,k,rfl⟩;(try simp only[Qa.next_push,Qa.next_up,Qa.next_set]at hn);simp(disch:=(first | omega | ((repeat (first | rw[Qa.next_push] | rw[Qa.next_set] | rw[Qa.next_up]));done) | ((repeat (first | rw[Qa.next_push] | rw[Qa.next_set] | rw[Qa.next_up]));omega))) only[sxA,sxB,Nat.reduceBEq,Nat.reduceEqDiff,reduceCtorEq,mxD,mxB,Nat.reduceAdd,reduceIte,Nat.reduceLeDiff,splice,XJ])
   | (with_reducible refine⟨by simp[Qn,plain],by omega,?_⟩)
   | (with_reducible refine⟨by simp[Qn,plain],?_⟩)
   | fail)
 all_goals refine .ext hw ?_ ⟨?_,_,rfl⟩
 all_goals try (repeat' (first | exact Ext.refl _ | refine Ext.push ?_ _ | refine Ext.up ?_ (by simp only[Qa.next_push,Qa.next_set,Qa.next_up];omega) | refine Ext.set ?_ (by omega) _))
 all_goals simp_all
theorem QiO (n:Int) (l:List Int) (v:Value) (H:Qa) (hv:QkF H v l.length (Qs9 l)) (hl:l.length≤1000):Qf prog Xe [.int .i64 n,v] H fun u H'=>u=.bool (l.contains n)∧H'=H:=by
 refine Qen fun hw=>?_
 obtain⟨a,cap,rfl,hb⟩:=hv
 simp only[VQ,sxA,sxB,Nat.reduceBEq,Nat.reduceEqDiff,reduceCtorEq,mxA,mxB,Nat.reduceAdd,reduceIte,Nat.reduceLeDiff,splice]
 refine Wq (fun m A' H'=>∃i:Nat,m+i=l.length∧H'=H∧(l.contains n=(l.drop i).contains n)∧A' 0=.int .i64 n∧A' 1=.slice a l.length cap∧A' 5=.int .i64 i) l.length ?_ ?_
 ·refine⟨0,rfl,rfl,rfl,?_,?_,?_⟩
  all_goals simp only[uxA,uxB,Nat.reduceBEq]
  rfl
 ·rintro m A' H1 ⟨i,hm,rfl,hc,r0,r1,r5⟩
  by_cases hi:i<l.length
  ·obtain⟨b,e,ro,rfl,hg⟩:=hb (by omega)
   have d1:decide ((i:Int)<(l.length:Int))=true:=decide_eq_true (by omega)
   have wi:IntKind.i64.wrap ((i:Int)+1)=((i+1:Nat):Int):=by rw[w64 (by unfold I64;omega)];rfl
   have c2:(0:Int)≤(i:Int)∧(i:Int)<(l.length:Int):=by omega
   have c3:(i:Int).toNat=i:=Int.toNat_natCast _
   have hg2:=Qqi hi
   have hd:l.drop i=l.getD i 0::l.drop (i+1):=by
    rw[List.drop_eq_getElem_cons hi,List.getD_eq_getElem?_getD,List.getElem?_eq_getElem hi];rfl
   rw[hd,List.contains_cons]at hc
   simp only[ZJ,GL,sxA,sxB,Nat.reduceBEq,Nat.reduceEqDiff,reduceCtorEq,mxA,mxB,Nat.reduceAdd,reduceIte,Nat.reduceLeDiff,splice,r0,r1,r5,d1,c2,c3,hg,hg2,decide_true]
   refine Qe (fun h=>?_) (fun h=>?_)
   ·have h2:(n==l.getD i 0)=true:=by rw[Bool.beq_comm];exact h
    rw[h2,Bool.true_or]at hc
    simp only[sxA,sxB,Nat.reduceBEq,Nat.reduceEqDiff,reduceCtorEq,mxA,mxB,Nat.reduceAdd,reduceIte,Nat.reduceLeDiff,splice,h,Vq]
    exact .mk (Nat.le_refl _) ⟨by rw[hc],rfl⟩
   ·have h2:(n==l.getD i 0)=false:=by rw[Bool.beq_comm];exact h
    rw[h2,Bool.false_or]at hc
    simp only[sxA,sxB,Nat.reduceBEq,Nat.reduceEqDiff,reduceCtorEq,mxA,mxB,Nat.reduceAdd,reduceIte,Nat.reduceLeDiff,splice,h,r5,wi]
    refine⟨m - 1,by omega,i+1,by omega,rfl,hc,?_,?_,?_⟩
    all_goals simp only[uxA,uxB,Nat.reduceBEq,r0,r1]
  ·have d1:decide ((i:Int)<(l.length:Int))=false:=decide_eq_false (by omega)
   have hn:l.drop i=[]:=List.drop_eq_nil_of_le (by omega)
   rw[hn]at hc
   simp only[ZJ,sxA,sxB,Nat.reduceBEq,Nat.reduceEqDiff,reduceCtorEq,mxA,mxB,Nat.reduceAdd,reduceIte,Nat.reduceLeDiff,splice,r1,r5,d1,Vq]
   exact .mk (Nat.le_refl _) ⟨by rw[hc];rfl,rfl⟩
theorem QtW (n:Int) {b:Nat} {H:Qa} (hg:H.get b=some (.cells [.int .i64 0,.int .i64 1,.int .i64 2,.int .i64 4,.int .i64 8,.int .i64 16,.int .i64 32] 3 false)):Qf prog Xe [.int .i64 n,.slice (some ⟨b,0,none⟩) 7 7] H fun u H'=>u=.bool (YH n)∧H'=H:=by
 refine(QiO n [0,1,2,4,8,16,32] _ H ⟨_,_,rfl,fun _=>⟨_,_,_,rfl,hg⟩⟩ (by decide)).mono ?_
 rintro _ _ ⟨rfl,rfl⟩
 refine⟨?_,rfl⟩
 congr 1
 unfold YH
 simp only[List.contains_cons,List.contains_nil,Bool.or_false,Bool.or_assoc]
theorem QtX (n:Int) {b:Nat} {H:Qa} (hg:H.get b=some (.cells [.int .i64 1,.int .i64 2,.int .i64 4,.int .i64 8] 3 false)):Qf prog Xe [.int .i64 n,.slice (some ⟨b,0,none⟩) 4 4] H fun u H'=>u=.bool (Xt n)∧H'=H:=by
 refine(QiO n [1,2,4,8] _ H ⟨_,_,rfl,fun _=>⟨_,_,_,rfl,hg⟩⟩ (by decide)).mono ?_
 rintro _ _ ⟨rfl,rfl⟩
 refine⟨?_,rfl⟩
 congr 1
 unfold Xt
 simp only[List.contains_cons,List.contains_nil,Bool.or_false,Bool.or_assoc]
theorem GT (m:Mm) (H:Qa):Qf prog XU [.agg m.cells.toArray] H fun u H'=>u=.int .i64 (Qm m)∧∃k,H'=H.up k:=by
 refine Qcc fun hw=>?_
 have hs:Qm m=(if(decide (m.d < -2147483648)||decide (m.d>2147483647))=true then 5
  else if YH m.sz=false then 2
  else if(!isR m.b 0 0&&!isR m.b 8 0&&!W8 m.b)=true then 2
  else if(isR m.i 0 0&&!(m.sc==0))=true then 2
  else if isR m.i 0 0=true then 0
  else if(!W8 m.i||!Xt m.sc||isR m.b 8 0)=true then 2
  else if(isR m.i 5 4&&(!(m.sc==1)||isR m.b 5 4))=true then 2
  else 0):=rfl
 rw[hs]
 clear hs
 have n1:=Ja m.b
 have n2:=Ja m.i
 have w1:=Vv m.b
 have w2:=Vv m.i
 have i7:=@QtW m.sz
 have i4:=@QtX m.sc
 generalize YH m.sz=zs at *
 generalize Xt m.sc=zc at *
 generalize W8 m.b=wb at *
 generalize W8 m.i=wi at *
 obtain⟨⟨bc,bn⟩,⟨ic,nn⟩,sc,d,sz⟩:=m
 simp only[Rg.cells]at n1 n2 w1 w2
 simp(disch:=(first | omega | ((repeat (first | rw[Qa.next_push] | rw[Qa.next_set] | rw[Qa.next_up]));done) | ((repeat (first | rw[Qa.next_push] | rw[Qa.next_set] | rw[Qa.next_up]));omega))) only[Mm.cells,K2,Qz,QA,QB,QC,QE,QF,sxA,sxB,Nat.reduceBEq,Nat.reduceEqDiff,reduceCtorEq,mxD,mxB,Nat.reduceAdd,reduceIte,Nat.reduceLeDiff,splice,Qi,QJ]
 repeat' (first
   | (refine Qp (fun h=>?_) (fun h=>?_)<;>(try simp only[Bool.not_eq_true',Bool.not_eq_false']at h)<;>simp(disch:=(first | omega | ((repeat (first | rw[Qa.next_push] | rw[Qa.next_set] | rw[Qa.next_up]));done) | ((repeat (first | rw[Qa.next_push] | rw[Qa.next_set] | rw[Qa.next_up]));omega))) only[Qz,QA,QB,QC,QE,QF,sxA,sxB,Nat.reduceBEq,Nat.reduceEqDiff,reduceCtorEq,mxD,mxB,Nat.reduceAdd,reduceIte,Nat.reduceLeDiff,splice,Qi,QJ,h])
   | (refine Qe (fun h=>?_) (fun h=>?_)<;>(try simp only[Bool.not_eq_true',Bool.not_eq_false']at h)<;>simp(disch:=(first | omega | ((repeat (first | rw[Qa.next_push] | rw[Qa.next_set] | rw[Qa.next_up]));done) | ((repeat (first | rw[Qa.next_push] | rw[Qa.next_set] | rw[Qa.next_up]));omega))) only[Qz,QA,QB,QC,QE,QF,sxA,sxB,Nat.reduceBEq,Nat.reduceEqDiff,reduceCtorEq,mxD,mxB,Nat.reduceAdd,reduceIte,Nat.reduceLeDiff,splice,Qi,QJ,h])
   | (refine(n1 _).thenW ?_;rintro _ _ hn hw2 ⟨rfl,k,rfl⟩;(try simp only[Qa.next_push,Qa.next_up,Qa.next_set]at hn);simp(disch:=(first | omega | ((repeat (first | rw[Qa.next_push] | rw[Qa.next_set] | rw[Qa.next_up]));done) | ((repeat (first | rw[Qa.next_push] | rw[Qa.next_set] | rw[Qa.next_up]));omega))) only[Qz,QA,QB,QC,QE,QF,sxA,sxB,Nat.reduceBEq,Nat.reduceEqDiff,reduceCtorEq,mxD,mxB,Nat.reduceAdd,reduceIte,Nat.reduceLeDiff,splice,Qi,QJ])
   | (refine(n2 _).thenW ?_;rintro _ _ hn hw2 ⟨rfl,k,rfl⟩;(try simp only[Qa.next_push,Qa.next_up,Qa.next_set]at hn);simp(disch:=(first | omega | ((repeat (first | rw[Qa.next_push] | rw[Qa.next_set] | rw[Qa.next_up]));done) | ((repeat (first | rw[Qa.next_push] | rw[Qa.next_set] | rw[Qa.next_up]));omega))) only[Qz,QA,QB,QC,QE,QF,sxA,sxB,Nat.reduceBEq,Nat.reduceEqDiff,reduceCtorEq,mxD,mxB,Nat.reduceAdd,reduceIte,Nat.reduceLeDiff,splice,Qi,QJ])
   | (refine(w1 _).thenW ?_;rintro _ _ hn hw2 ⟨rfl,k,rfl⟩;(try simp only[Qa.next_push,Qa.next_up,Qa.next_set]at hn);simp(disch:=(first | omega | ((repeat (first | rw[Qa.next_push] | rw[Qa.next_set] | rw[Qa.next_up]));done) | ((repeat (first | rw[Qa.next_push] | rw[Qa.next_set] | rw[Qa.next_up]));omega))) only[Qz,QA,QB,QC,QE,QF,sxA,sxB,Nat.reduceBEq,Nat.reduceEqDiff,reduceCtorEq,mxD,mxB,Nat.reduceAdd,reduceIte,Nat.reduceLeDiff,splice,Qi,QJ])
   | (refine(w2 _).thenW ?_;rintro _ _ hn hw2 ⟨rfl,k,rfl⟩;(try simp only[Qa.next_push,Qa.next_up,Qa.next_set]at hn);simp(disch:=(first | omega | ((repeat (first | rw[Qa.next_push] | rw[Qa.next_set] | rw[Qa.next_up]));done) | ((repeat (first | rw[Qa.next_push] | rw[Qa.next_set] | rw[Qa.next_up]));omega))) only[Qz,QA,QB,QC,QE,QF,sxA,sxB,Nat.reduceBEq,Nat.reduceEqDiff,reduceCtorEq,mxD,mxB,Nat.reduceAdd,reduceIte,Nat.reduceLeDiff,splice,Qi,QJ])
   | (refine(i7 (by simp(disch:=(first | omega | ((repeat (first | rw[Qa.next_push] | rw[Qa.next_set] | rw[Qa.next_up]));done) | ((repeat (first | rw[Qa.next_push] | rw[Qa.next_set] | rw[Qa.next_up]));omega))) only[mxD,mxB,Nat.reduceAdd,reduceIte,Nat.reduceLeDiff,splice];done)).thenW ?_;rintro _ _ hn hw2 ⟨rfl,rfl⟩;(try simp only[Qa.next_push,Qa.next_up,Qa.next_set]at hn);simp(disch:=(first | omega | ((repeat (first | rw[Qa.next_push] | rw[Qa.next_set] | rw[Qa.next_up]));done) | ((repeat (first | rw[Qa.next_push] | rw[Qa.next_set] | rw[Qa.next_up]));omega))) only[Qz,QA,QB,QC,QE,QF,sxA,sxB,Nat.reduceBEq,Nat.reduceEqDiff,reduceCtorEq,mxD,mxB,Nat.reduceAdd,reduceIte,Nat.reduceLeDiff,splice,Qi,QJ])
   | (refine(i4 (by simp(disch:=(first | omega | ((repeat (first | rw[Qa.next_push] | rw[Qa.next_set] | rw[Qa.next_up]));done) | ((repeat (first | rw[Qa.next_push] | rw[Qa.next_set] | rw[Qa.next_up]));omega))) only[mxD,mxB,Nat.reduceAdd,reduceIte,Nat.reduceLeDiff,splice];done)).thenW ?_;rintro _ _ hn hw2 ⟨rfl,rfl⟩;(try simp only[Qa.next_push,Qa.next_up,Qa.next_set]at hn);simp(disch:=(first | omega | ((repeat (first | rw[Qa.next_push] | rw[Qa.next_set] | rw[Qa.next_up]));done) | ((repeat (first | rw[Qa.next_push] | rw[Qa.next_set] | rw[Qa.next_up]));omega))) only[Qz,QA,QB,QC,QE,QF,sxA,sxB,Nat.reduceBEq,Nat.reduceEqDiff,reduceCtorEq,mxD,mxB,Nat.reduceAdd,reduceIte,Nat.reduceLeDiff,splice,Qi,QJ])
   | (with_reducible refine⟨by simp[Qn,plain],by omega,?_⟩)
   | (with_reducible refine⟨by simp[Qn,plain],?_⟩)
   | fail)
 all_goals refine .ext hw ?_ ⟨?_,_,rfl⟩
 all_goals try (repeat' (first | exact Ext.refl _ | refine Ext.push ?_ _ | refine Ext.up ?_ (by simp only[Qa.next_push,Qa.next_set,Qa.next_up];omega) | refine Ext.set ?_ (by omega) _))
 all_goals clear n1 n2 w1 w2 i7 i4
 all_goals first | (simp_all [isR];done) | (simp_all [isR];(repeat' split)<;>first | rfl | omega | (simp_all;done) | (exfalso;simp_all;omega))
theorem Qo5 {m:Mm} (h:Qm m=0) (hs:(m.sc==1)=true):isR m.i 0 0=false:=by
 have hs:=beq_iff_eq.1 hs
 cases hi:isR m.i 0 0 with
 | false=>rfl
 | true=>
  exfalso
  unfold Qm at h
  rw[hi,hs]at h
  repeat' (split at h)
  all_goals first | omega | (rename_i h9;simp at h9;done) | simp_all
def QkZ (m:Mm):Mm:=if(m.sc==1)=false then m else if isR m.b 0 0=true then⟨m.i,⟨0,0⟩,0,m.d,m.sz⟩ else if(m.i.n==4)=true then⟨m.i,m.b,m.sc,m.d,m.sz⟩ else m
theorem Qne (m:Mm):Gj m=if Qm m=0 then(QkZ m,0) else(Gi,Qm m):=by
 unfold Gj
 by_cases h:Qm m=0
 ·rw[if_pos h,if_pos h]
  congr 1
  unfold Wt QkZ
  cases hs:m.sc==1 with
  | false=>simp
  | true=>rw[Qo5 h hs];simp
 ·rw[if_neg h,if_neg h]
theorem GU (m:Mm) (H:Qa):Qf prog XT [.agg m.cells.toArray] H fun u H'=>u=.tuple #[.agg (Gj m).1.cells.toArray,.int .i64 (Gj m).2]∧∃k,H'=H.up k:=by
 refine Qb8 fun hw=>?_
 have q:=GT m
 have n1:=Ja m.b
 have hmc:QkZ m=if(m.sc==1)=false then m else if isR m.b 0 0=true then⟨m.i,⟨0,0⟩,0,m.d,m.sz⟩ else if(m.i.n==4)=true then⟨m.i,m.b,m.sc,m.d,m.sz⟩ else m:=rfl
 rw[Qne,hmc]
 clear hmc
 generalize Qm m=e at *
 obtain⟨⟨bc,bn⟩,⟨ic,nn⟩,sc,d,sz⟩:=m
 simp only[Mm.cells]at q
 simp only[Rg.cells]at n1
 simp(disch:=(first | omega | ((repeat (first | rw[Qa.next_push] | rw[Qa.next_set] | rw[Qa.next_up]));done) | ((repeat (first | rw[Qa.next_push] | rw[Qa.next_set] | rw[Qa.next_up]));omega))) only[Mm.cells,KW,QZ,Q0,Q3,Q4,sxA,sxB,Nat.reduceBEq,Nat.reduceEqDiff,reduceCtorEq,mxD,mxB,Nat.reduceAdd,reduceIte,Nat.reduceLeDiff,splice,Qi,WM]
 repeat' (first
   | (refine Qp (fun h=>?_) (fun h=>?_)<;>(try simp only[Bool.not_eq_true',Bool.not_eq_false']at h)<;>simp(disch:=(first | omega | ((repeat (first | rw[Qa.next_push] | rw[Qa.next_set] | rw[Qa.next_up]));done) | ((repeat (first | rw[Qa.next_push] | rw[Qa.next_set] | rw[Qa.next_up]));omega))) only[QZ,Q0,Q3,Q4,sxA,sxB,Nat.reduceBEq,Nat.reduceEqDiff,reduceCtorEq,mxD,mxB,Nat.reduceAdd,reduceIte,Nat.reduceLeDiff,splice,Qi,WM,h])
   | (refine Qe (fun h=>?_) (fun h=>?_)<;>(try simp only[Bool.not_eq_true',Bool.not_eq_false']at h)<;>simp(disch:=(first | omega | ((repeat (first | rw[Qa.next_push] | rw[Qa.next_set] | rw[Qa.next_up]));done) | ((repeat (first | rw[Qa.next_push] | rw[Qa.next_set] | rw[Qa.next_up]));omega))) only[QZ,Q0,Q3,Q4,sxA,sxB,Nat.reduceBEq,Nat.reduceEqDiff,reduceCtorEq,mxD,mxB,Nat.reduceAdd,reduceIte,Nat.reduceLeDiff,splice,Qi,WM,h])
   | (refine(q _).thenW ?_;rintro _ _ hn hw2 ⟨rfl,k,rfl⟩;(try simp only[Qa.next_push,Qa.next_up,Qa.next_set]at hn);simp(disch:=(first | omega | ((repeat (first | rw[Qa.next_push] | rw[Qa.next_set] | rw[Qa.next_up]));done) | ((repeat (first | rw[Qa.next_push] | rw[Qa.next_set] | rw[Qa.next_up]));omega))) only[QZ,Q0,Q3,Q4,sxA,sxB,Nat.reduceBEq,Nat.reduceEqDiff,reduceCtorEq,mxD,mxB,Nat.reduceAdd,reduceIte,Nat.reduceLeDiff,splice,Qi,WM])
   | (refine(n1 _).thenW ?_;rintro _ _ hn hw2 ⟨rfl,k,rfl⟩;(try simp only[Qa.next_push,Qa.next_up,Qa.next_set]at hn);simp(disch:=(first | omega | ((repeat (first | rw[Qa.next_push] | rw[Qa.next_set] | rw[Qa.next_up]));done) | ((repeat (first | rw[Qa.next_push] | rw[Qa.next_set] | rw[Qa.next_up]));omega))) only[QZ,Q0,Q3,Q4,sxA,sxB,Nat.reduceBEq,Nat.reduceEqDiff,reduceCtorEq,mxD,mxB,Nat.reduceAdd,reduceIte,Nat.reduceLeDiff,splice,Qi,WM])
   | (with_reducible refine⟨by simp[Qn,plain],by omega,?_⟩)
   | (with_reducible refine⟨by simp[Qn,plain],?_⟩)
   | fail)
 all_goals refine .ext hw ?_ ⟨?_,_,rfl⟩
 all_goals try (repeat' (first | exact Ext.refl _ | refine Ext.push ?_ _ | refine Ext.up ?_ (by simp only[Qa.next_push,Qa.next_set,Qa.next_up];omega) | refine Ext.set ?_ (by omega) _))
 all_goals clear q n1
 all_goals first | (simp_all [isR,Gi,Mm.cells];done) | (simp_all [isR,Gi,Mm.cells];(repeat' split)<;>first | rfl | (simp_all;done) | omega)
theorem ZK (a:Ar) (H:Qa):Qf prog W6 [.agg a.cells.toArray] H fun u H'=>u=.int .i64 (Wu a)∧∃k,H'=H.up k:=by
 refine Qck fun hw=>?_
 have q1:=X0 a.r
 have q2:=GT a.m
 have hs:Wu a=(if(a.k==1)=true then(if(!WW a.r||a.r.c==8)=true then 2 else 0)
 else if(a.k==2)=true then Qm a.m
 else if(a.k==3)=true then 0
 else if(a.k==4)=true then(if(decide (a.n < -2147483648)||decide (2147483647<a.n))=true then 5 else 0)
 else 2):=rfl
 rw[hs]
 clear hs
 generalize WW a.r=v at *
 generalize Qm a.m=e at *
 obtain⟨k,⟨rc,rn⟩,⟨⟨bc,bn⟩,⟨ic,nn⟩,sc,d,sz⟩,n⟩:=a
 simp only[Rg.cells,Mm.cells]at q1 q2
 simp(disch:=(first | omega | ((repeat (first | rw[Qa.next_push] | rw[Qa.next_set] | rw[Qa.next_up]));done) | ((repeat (first | rw[Qa.next_push] | rw[Qa.next_set] | rw[Qa.next_up]));omega))) only[Ar.cells,K7,Q9,Wa,Wb,Wc,Wd,sxA,sxB,Nat.reduceBEq,Nat.reduceEqDiff,reduceCtorEq,mxD,mxB,Nat.reduceAdd,reduceIte,Nat.reduceLeDiff,splice,WP]
 repeat' (first
   | (refine Qp (fun h=>?_) (fun h=>?_)<;>(try simp only[Bool.not_eq_true',Bool.not_eq_false']at h)<;>simp(disch:=(first | omega | ((repeat (first | rw[Qa.next_push] | rw[Qa.next_set] | rw[Qa.next_up]));done) | ((repeat (first | rw[Qa.next_push] | rw[Qa.next_set] | rw[Qa.next_up]));omega))) only[Q9,Wa,Wb,Wc,Wd,sxA,sxB,Nat.reduceBEq,Nat.reduceEqDiff,reduceCtorEq,mxD,mxB,Nat.reduceAdd,reduceIte,Nat.reduceLeDiff,splice,WP,h])
   | (refine Qe (fun h=>?_) (fun h=>?_)<;>(try simp only[Bool.not_eq_true',Bool.not_eq_false']at h)<;>simp(disch:=(first | omega | ((repeat (first | rw[Qa.next_push] | rw[Qa.next_set] | rw[Qa.next_up]));done) | ((repeat (first | rw[Qa.next_push] | rw[Qa.next_set] | rw[Qa.next_up]));omega))) only[Q9,Wa,Wb,Wc,Wd,sxA,sxB,Nat.reduceBEq,Nat.reduceEqDiff,reduceCtorEq,mxD,mxB,Nat.reduceAdd,reduceIte,Nat.reduceLeDiff,splice,WP,h])
   | (refine(q1 _).thenW ?_;rintro _ _ hn hw2 ⟨rfl,k,rfl⟩;(try simp only[Qa.next_push,Qa.next_up,Qa.next_set]at hn);simp(disch:=(first | omega | ((repeat (first | rw[Qa.next_push] | rw[Qa.next_set] | rw[Qa.next_up]));done) | ((repeat (first | rw[Qa.next_push] | rw[Qa.next_set] | rw[Qa.next_up]));omega))) only[Q9,Wa,Wb,Wc,Wd,sxA,sxB,Nat.reduceBEq,Nat.reduceEqDiff,reduceCtorEq,mxD,mxB,Nat.reduceAdd,reduceIte,Nat.reduceLeDiff,splice,WP])
   | (refine(q2 _).thenW ?_;rintro _ _ hn hw2 ⟨rfl,k,rfl⟩;(try simp only[Qa.next_push,Qa.next_up,Qa.next_set]at hn);simp(disch:=(first | omega | ((repeat (first | rw[Qa.next_push] | rw[Qa.next_set] | rw[Qa.next_up]));done) | ((repeat (first | rw[Qa.next_push] | rw[Qa.next_set] | rw[Qa.next_up]));omega))) only[Q9,Wa,Wb,Wc,Wd,sxA,sxB,Nat.reduceBEq,Nat.reduceEqDiff,reduceCtorEq,mxD,mxB,Nat.reduceAdd,reduceIte,Nat.reduceLeDiff,splice,WP])
   | (with_reducible refine⟨by simp[Qn,plain],by omega,?_⟩)
   | (with_reducible refine⟨by simp[Qn,plain],?_⟩)
   | fail)
 all_goals refine .ext hw ?_ ⟨?_,_,rfl⟩
 all_goals try (repeat' (first | exact Ext.refl _ | refine Ext.push ?_ _ | refine Ext.up ?_ (by simp only[Qa.next_push,Qa.next_set,Qa.next_up];omega) | refine Ext.set ?_ (by omega) _))
 all_goals clear q1 q2
 all_goals simp_all
theorem Qdm (a:Ar) (H:Qa):Qf prog XV [.agg a.cells.toArray] H fun u H'=>u=.tuple #[.agg (QP a).1.cells.toArray,.int .i64 (QP a).2]∧∃k,H'=H.up k:=by
 refine Qcg fun hw=>?_
 have q1:=ZK a
 have q2:=GU a.m
 have hm:=@Qfb a
 have hcc:Gj a.m=if Qm a.m=0 then(Wt a.m,0) else(Gi,Qm a.m):=rfl
 have hce:QP a=if(Wu a==0)=true then(Kc a,0) else(QjZ,Wu a):=rfl
 rw[hce]
 rw[hcc]at q2
 clear hce hcc
 generalize Wu a=e at *
 generalize Qm a.m=f at *
 have hca:Kc a=if(a.k==1)=true then⟨a.k,a.r,Gi,0⟩ else if(a.k==2)=true then⟨a.k,⟨0,0⟩,Wt a.m,0⟩ else⟨a.k,⟨0,0⟩,Gi,a.n⟩:=rfl
 rw[hca]
 clear hca
 generalize Wt a.m=mc at *
 obtain⟨k,⟨rc,rn⟩,⟨⟨bc,bn⟩,⟨ic,nn⟩,sc,d,sz⟩,n⟩:=a
 obtain⟨⟨mb,mbn⟩,⟨mi,min⟩,msc,md,msz⟩:=mc
 simp only[Ar.cells,Mm.cells]at q1 q2 hm
 simp(disch:=(first | omega | ((repeat (first | rw[Qa.next_push] | rw[Qa.next_set] | rw[Qa.next_up]));done) | ((repeat (first | rw[Qa.next_push] | rw[Qa.next_set] | rw[Qa.next_up]));omega))) only[Ar.cells,K5,Q7,Q8,sxA,sxB,Nat.reduceBEq,Nat.reduceEqDiff,reduceCtorEq,mxD,mxB,Nat.reduceAdd,reduceIte,Nat.reduceLeDiff,splice,WN]
 repeat' (first
   | (refine Qp (fun h=>?_) (fun h=>?_)<;>(try simp only[Bool.not_eq_true',Bool.not_eq_false']at h)<;>simp(disch:=(first | omega | ((repeat (first | rw[Qa.next_push] | rw[Qa.next_set] | rw[Qa.next_up]));done) | ((repeat (first | rw[Qa.next_push] | rw[Qa.next_set] | rw[Qa.next_up]));omega))) only[Q7,Q8,sxA,sxB,Nat.reduceBEq,Nat.reduceEqDiff,reduceCtorEq,mxD,mxB,Nat.reduceAdd,reduceIte,Nat.reduceLeDiff,splice,WN,h])
   | (refine Qe (fun h=>?_) (fun h=>?_)<;>(try simp only[Bool.not_eq_true',Bool.not_eq_false']at h)<;>simp(disch:=(first | omega | ((repeat (first | rw[Qa.next_push] | rw[Qa.next_set] | rw[Qa.next_up]));done) | ((repeat (first | rw[Qa.next_push] | rw[Qa.next_set] | rw[Qa.next_up]));omega))) only[Q7,Q8,sxA,sxB,Nat.reduceBEq,Nat.reduceEqDiff,reduceCtorEq,mxD,mxB,Nat.reduceAdd,reduceIte,Nat.reduceLeDiff,splice,WN,h])
   | (refine(q1 _).thenW ?_;rintro _ _ hn hw2 ⟨rfl,k,rfl⟩;(try simp only[Qa.next_push,Qa.next_up,Qa.next_set]at hn);simp(disch:=(first | omega | ((repeat (first | rw[Qa.next_push] | rw[Qa.next_set] | rw[Qa.next_up]));done) | ((repeat (first | rw[Qa.next_push] | rw[Qa.next_set] | rw[Qa.next_up]));omega))) only[Q7,Q8,sxA,sxB,Nat.reduceBEq,Nat.reduceEqDiff,reduceCtorEq,mxD,mxB,Nat.reduceAdd,reduceIte,Nat.reduceLeDiff,splice,WN])
   | (refine(q2 _).thenW ?_;rintro _ _ hn hw2 ⟨rfl,k,rfl⟩;(try simp only[Qa.next_push,Qa.next_up,Qa.next_set]at hn);simp(disch:=(first | omega | ((repeat (first | rw[Qa.next_push] | rw[Qa.next_set] | rw[Qa.next_up]));done) | ((repeat (first | rw[Qa.next_push] | rw[Qa.next_set] | rw[Qa.next_up]));omega))) only[Q7,Q8,sxA,sxB,Nat.reduceBEq,Nat.reduceEqDiff,reduceCtorEq,mxD,mxB,Nat.reduceAdd,reduceIte,Nat.reduceLeDiff,splice,WN])
   | (with_reducible refine⟨by simp[Qn,plain],by omega,?_⟩)
   | (with_reducible refine⟨by simp[Qn,plain],?_⟩)
   | fail)
 all_goals refine .ext hw ?_ ⟨?_,_,rfl⟩
 all_goals try (repeat' (first | exact Ext.refl _ | refine Ext.push ?_ _ | refine Ext.up ?_ (by simp only[Qa.next_push,Qa.next_set,Qa.next_up];omega) | refine Ext.set ?_ (by omega) _))
 all_goals simp_all [QjZ,Gi,Ar.cells,Mm.cells]
theorem Qd2 (r:Rg) (H:Qa):Qf prog Z0 [.agg r.cells.toArray] H fun u H'=>u=.int .i64 (QbG r)∧∃k,H'=H.up k:=by
 refine Qdj fun hw=>?_
 have q1:=X0 r
 have hs:QbG r=if WW r=false then 0 else if r.c=7 then 32 else if r.c=6 then 16 else if r.c=5∨r.c=8 then 8 else if r.c=4 then 4 else if r.c=3 then 2 else 1:=rfl
 rw[hs]
 clear hs
 generalize WW r=v at *
 obtain⟨c,n⟩:=r
 simp only[Rg.cells]at q1
 simp(disch:=(first | omega | ((repeat (first | rw[Qa.next_push] | rw[Qa.next_set] | rw[Qa.next_up]));done) | ((repeat (first | rw[Qa.next_push] | rw[Qa.next_set] | rw[Qa.next_up]));omega))) only[Rg.cells,GQ,WQ,WR,WS,WT,WU,sxA,sxB,Nat.reduceBEq,Nat.reduceEqDiff,reduceCtorEq,mxD,mxB,Nat.reduceAdd,reduceIte,Nat.reduceLeDiff,splice,XK]
 repeat' (first
   | (refine Qp (fun h=>?_) (fun h=>?_)<;>(try simp only[Bool.not_eq_true',Bool.not_eq_false']at h)<;>simp(disch:=(first | omega | ((repeat (first | rw[Qa.next_push] | rw[Qa.next_set] | rw[Qa.next_up]));done) | ((repeat (first | rw[Qa.next_push] | rw[Qa.next_set] | rw[Qa.next_up]));omega))) only[WQ,WR,WS,WT,WU,sxA,sxB,Nat.reduceBEq,Nat.reduceEqDiff,reduceCtorEq,mxD,mxB,Nat.reduceAdd,reduceIte,Nat.reduceLeDiff,splice,XK,h])
   | (refine Qe (fun h=>?_) (fun h=>?_)<;>(try simp only[Bool.not_eq_true',Bool.not_eq_false']at h)<;>simp(disch:=(first | omega | ((repeat (first | rw[Qa.next_push] | rw[Qa.next_set] | rw[Qa.next_up]));done) | ((repeat (first | rw[Qa.next_push] | rw[Qa.next_set] | rw[Qa.next_up]));omega))) only[WQ,WR,WS,WT,WU,sxA,sxB,Nat.reduceBEq,Nat.reduceEqDiff,reduceCtorEq,mxD,mxB,Nat.reduceAdd,reduceIte,Nat.reduceLeDiff,splice,XK,h])
   | (refine(q1 _).thenW ?_;rintro _ _ hn hw2 ⟨rfl,k,rfl⟩;(try simp only[Qa.next_push,Qa.next_up,Qa.next_set]at hn);simp(disch:=(first | omega | ((repeat (first | rw[Qa.next_push] | rw[Qa.next_set] | rw[Qa.next_up]));done) | ((repeat (first | rw[Qa.next_push] | rw[Qa.next_set] | rw[Qa.next_up]));omega))) only[WQ,WR,WS,WT,WU,sxA,sxB,Nat.reduceBEq,Nat.reduceEqDiff,reduceCtorEq,mxD,mxB,Nat.reduceAdd,reduceIte,Nat.reduceLeDiff,splice,XK])
   | (with_reducible refine⟨by simp[Qn,plain],by omega,?_⟩)
   | (with_reducible refine⟨by simp[Qn,plain],?_⟩)
   | fail)
 all_goals refine .ext hw ?_ ⟨?_,_,rfl⟩
 all_goals try (repeat' (first | exact Ext.refl _ | refine Ext.push ?_ _ | refine Ext.up ?_ (by simp only[Qa.next_push,Qa.next_set,Qa.next_up];omega) | refine Ext.set ?_ (by omega) _))
 all_goals clear q1
 all_goals first | (simp_all;done) | (simp_all;omega)
theorem Qd3 (a:Ar) (H:Qa):Qf prog Ym [.agg a.cells.toArray] H fun u H'=>u=.int .i64 (Qd1 a)∧∃k,H'=H.up k:=by
 refine Qdh fun hw=>?_
 have q1:=ZK a
 have q2:=Qd2 a.r
 have hs:Qd1 a=if(Wu a==0)=true then(if(a.k==1)=true then QbG a.r else if(a.k==2)=true then a.m.sz else 0) else 0:=rfl
 rw[hs]
 clear hs
 generalize Wu a=e at *
 generalize QbG a.r=sr at *
 obtain⟨k,⟨rc,rn⟩,⟨⟨bc,bn⟩,⟨ic,nn⟩,sc,d,sz⟩,n⟩:=a
 simp only[Ar.cells,Rg.cells]at q1 q2
 simp(disch:=(first | omega | ((repeat (first | rw[Qa.next_push] | rw[Qa.next_set] | rw[Qa.next_up]));done) | ((repeat (first | rw[Qa.next_push] | rw[Qa.next_set] | rw[Qa.next_up]));omega))) only[Ar.cells,GO,Wl,Wm,sxA,sxB,Nat.reduceBEq,Nat.reduceEqDiff,reduceCtorEq,mxD,mxB,Nat.reduceAdd,reduceIte,Nat.reduceLeDiff,splice,W0]
 repeat' (first
   | (refine Qp (fun h=>?_) (fun h=>?_)<;>(try simp only[Bool.not_eq_true',Bool.not_eq_false']at h)<;>simp(disch:=(first | omega | ((repeat (first | rw[Qa.next_push] | rw[Qa.next_set] | rw[Qa.next_up]));done) | ((repeat (first | rw[Qa.next_push] | rw[Qa.next_set] | rw[Qa.next_up]));omega))) only[Wl,Wm,sxA,sxB,Nat.reduceBEq,Nat.reduceEqDiff,reduceCtorEq,mxD,mxB,Nat.reduceAdd,reduceIte,Nat.reduceLeDiff,splice,W0,h])
   | (refine Qe (fun h=>?_) (fun h=>?_)<;>(try simp only[Bool.not_eq_true',Bool.not_eq_false']at h)<;>simp(disch:=(first | omega | ((repeat (first | rw[Qa.next_push] | rw[Qa.next_set] | rw[Qa.next_up]));done) | ((repeat (first | rw[Qa.next_push] | rw[Qa.next_set] | rw[Qa.next_up]));omega))) only[Wl,Wm,sxA,sxB,Nat.reduceBEq,Nat.reduceEqDiff,reduceCtorEq,mxD,mxB,Nat.reduceAdd,reduceIte,Nat.reduceLeDiff,splice,W0,h])
   | (refine(q1 _).thenW ?_;rintro _ _ hn hw2 ⟨rfl,k,rfl⟩;(try simp only[Qa.next_push,Qa.next_up,Qa.next_set]at hn);simp(disch:=(first | omega | ((repeat (first | rw[Qa.next_push] | rw[Qa.next_set] | rw[Qa.next_up]));done) | ((repeat (first | rw[Qa.next_push] | rw[Qa.next_set] | rw[Qa.next_up]));omega))) only[Wl,Wm,sxA,sxB,Nat.reduceBEq,Nat.reduceEqDiff,reduceCtorEq,mxD,mxB,Nat.reduceAdd,reduceIte,Nat.reduceLeDiff,splice,W0])
   | (refine(q2 _).thenW ?_;rintro _ _ hn hw2 ⟨rfl,k,rfl⟩;(try simp only[Qa.next_push,Qa.next_up,Qa.next_set]at hn);simp(disch:=(first | omega | ((repeat (first | rw[Qa.next_push] | rw[Qa.next_set] | rw[Qa.next_up]));done) | ((repeat (first | rw[Qa.next_push] | rw[Qa.next_set] | rw[Qa.next_up]));omega))) only[Wl,Wm,sxA,sxB,Nat.reduceBEq,Nat.reduceEqDiff,reduceCtorEq,mxD,mxB,Nat.reduceAdd,reduceIte,Nat.reduceLeDiff,splice,W0])
   | (with_reducible refine⟨by simp[Qn,plain],by omega,?_⟩)
   | (with_reducible refine⟨by simp[Qn,plain],?_⟩)
   | fail)
 all_goals refine .ext hw ?_ ⟨?_,_,rfl⟩
 all_goals try (repeat' (first | exact Ext.refl _ | refine Ext.push ?_ _ | refine Ext.up ?_ (by simp only[Qa.next_push,Qa.next_set,Qa.next_up];omega) | refine Ext.set ?_ (by omega) _))
 all_goals clear q1 q2
 all_goals simp_all
def Qf4 (n all:Int) (sg:Bool):Int×Int:=
 if(decide (n < -(all / 2))||decide (all≤n))=true then(0,5)
 else if(sg&&decide (all / 2≤n))=true then(n - all,0)
 else if(!sg&&decide (n<0))=true then(n+all,0)
 else(n,0)
theorem Qtl (n:Int) (sg:Bool):Qf4 n 256 sg=Yw n 8 sg:=by
 have e1:QbH n 8=n % 256:=rfl
 have e2:QbI n 8=(n+128) % 256 - 128:=rfl
 unfold Qf4 Yw
 rw[e1,e2]
 have hb:((8:Int)==8||(8:Int)==16||(8:Int)==32||(8:Int)==64)=true:=rfl
 rw[hb]
 simp only[Bool.true_eq_false,if_false]
 by_cases c1:n < -(256 / 2)∨256≤n
 ·have d1:(decide (n < -(256 / 2))||decide (256≤n))=true:=by simp only[Bool.or_eq_true,decide_eq_true_eq];exact c1
  have d2:(!(n==n % 256)&&!(n==(n+128) % 256 - 128))=true:=by
   simp only[Bool.and_eq_true,Bool.not_eq_true',beq_eq_false_iff_ne,ne_eq];omega
  rw[if_pos d1,if_pos d2]
 ·have d1:¬ (decide (n < -(256 / 2))||decide (256≤n))=true:=by simp only[Bool.or_eq_true,decide_eq_true_eq];exact c1
  have d2:¬ (!(n==n % 256)&&!(n==(n+128) % 256 - 128))=true:=by
   simp only[Bool.and_eq_true,Bool.not_eq_true',beq_eq_false_iff_ne,ne_eq];omega
  rw[if_neg d1,if_neg d2]
  cases sg
  ·by_cases c2:n<0
   ·simp[c2];omega
   ·simp[c2];omega
  ·by_cases c2:256 / 2≤n
   ·rw[if_pos (by simp only[Bool.true_and,decide_eq_true_eq];exact c2)];simp;omega
   ·rw[if_neg (by simp only[Bool.true_and,decide_eq_true_eq];exact c2)];simp;omega
theorem QrZ (n:Int) (sg:Bool):Qf4 n 65536 sg=Yw n 16 sg:=by
 have e1:QbH n 16=n % 65536:=rfl
 have e2:QbI n 16=(n+32768) % 65536 - 32768:=rfl
 unfold Qf4 Yw
 rw[e1,e2]
 have hb:((16:Int)==8||(16:Int)==16||(16:Int)==32||(16:Int)==64)=true:=rfl
 rw[hb]
 simp only[Bool.true_eq_false,if_false]
 by_cases c1:n < -(65536 / 2)∨65536≤n
 ·have d1:(decide (n < -(65536 / 2))||decide (65536≤n))=true:=by simp only[Bool.or_eq_true,decide_eq_true_eq];exact c1
  have d2:(!(n==n % 65536)&&!(n==(n+32768) % 65536 - 32768))=true:=by
   simp only[Bool.and_eq_true,Bool.not_eq_true',beq_eq_false_iff_ne,ne_eq];omega
  rw[if_pos d1,if_pos d2]
 ·have d1:¬ (decide (n < -(65536 / 2))||decide (65536≤n))=true:=by simp only[Bool.or_eq_true,decide_eq_true_eq];exact c1
  have d2:¬ (!(n==n % 65536)&&!(n==(n+32768) % 65536 - 32768))=true:=by
   simp only[Bool.and_eq_true,Bool.not_eq_true',beq_eq_false_iff_ne,ne_eq];omega
  rw[if_neg d1,if_neg d2]
  cases sg
  ·by_cases c2:n<0
   ·simp[c2];omega
   ·simp[c2];omega
  ·by_cases c2:65536 / 2≤n
   ·rw[if_pos (by simp only[Bool.true_and,decide_eq_true_eq];exact c2)];simp;omega
   ·rw[if_neg (by simp only[Bool.true_and,decide_eq_true_eq];exact c2)];simp;omega
theorem Qr0 (n:Int) (sg:Bool):Qf4 n 4294967296 sg=Yw n 32 sg:=by
 have e1:QbH n 32=n % 4294967296:=rfl
 have e2:QbI n 32=(n+2147483648) % 4294967296 - 2147483648:=rfl
 unfold Qf4 Yw
 rw[e1,e2]
 have hb:((32:Int)==8||(32:Int)==16||(32:Int)==32||(32:Int)==64)=true:=rfl
 rw[hb]
 simp only[Bool.true_eq_false,if_false]
 by_cases c1:n < -(4294967296 / 2)∨4294967296≤n
 ·have d1:(decide (n < -(4294967296 / 2))||decide (4294967296≤n))=true:=by simp only[Bool.or_eq_true,decide_eq_true_eq];exact c1
  have d2:(!(n==n % 4294967296)&&!(n==(n+2147483648) % 4294967296 - 2147483648))=true:=by
   simp only[Bool.and_eq_true,Bool.not_eq_true',beq_eq_false_iff_ne,ne_eq];omega
  rw[if_pos d1,if_pos d2]
 ·have d1:¬ (decide (n < -(4294967296 / 2))||decide (4294967296≤n))=true:=by simp only[Bool.or_eq_true,decide_eq_true_eq];exact c1
  have d2:¬ (!(n==n % 4294967296)&&!(n==(n+2147483648) % 4294967296 - 2147483648))=true:=by
   simp only[Bool.and_eq_true,Bool.not_eq_true',beq_eq_false_iff_ne,ne_eq];omega
  rw[if_neg d1,if_neg d2]
  cases sg
  ·by_cases c2:n<0
   ·simp[c2];omega
   ·simp[c2];omega
  ·by_cases c2:4294967296 / 2≤n
   ·rw[if_pos (by simp only[Bool.true_and,decide_eq_true_eq];exact c2)];simp;omega
   ·rw[if_neg (by simp only[Bool.true_and,decide_eq_true_eq];exact c2)];simp;omega
theorem Qhf (n bits:Int) (sg:Bool) (hn:I64 n) (H:Qa):Qf prog YN [.int .i64 n,.int .i64 bits,.bool sg] H fun u H'=>u=.tuple #[.int .i64 (Yw n bits sg).1,.int .i64 (Yw n bits sg).2]∧H'=H:=by
 refine QdQ fun hw=>?_
 by_cases hb:bits=8∨bits=16∨bits=32∨bits=64
 ·have z2:((2:Int)≠0)=True:=by simp
  rcases hb with rfl | rfl | rfl | rfl
  ·have t1:((8:Int)==8)=true:=rfl
   have t2:((8:Int)==16)=false:=rfl
   have t3:((8:Int)==32)=false:=rfl
   have t4:((8:Int)==64)=false:=rfl
   have z0:((0:Int)≤8)=True:=eq_true (by decide)
   have w1:IntKind.i64.wrap (1 * 2 ^ min (Int.toNat 8) IntKind.i64.bits)=256:=by decide
   have w2:IntKind.i64.wrap (-256)=-256:=by decide
   have w3:IntKind.i64.wrap ((-256:Int).tdiv 2)=-(256 / 2):=by decide
   have w4:IntKind.i64.wrap ((256:Int).tdiv 2)=256 / 2:=by decide
   have w5:IntKind.i64.wrap (n+256)=n+256∨¬n<0:=by
    by_cases h:n<0
    ·exact .inl (w64 (by unfold I64 at *;omega))
    ·exact .inr h
   have w6:IntKind.i64.wrap (n - 256)=n - 256∨¬256 / 2≤n:=by
    by_cases h:256 / 2≤n
    ·exact .inl (w64 (by unfold I64 at *;omega))
    ·exact .inr h
   rw[← Qtl]
   simp(disch:=(first | omega | ((repeat (first | rw[Qa.next_push] | rw[Qa.next_set] | rw[Qa.next_up]));done) | ((repeat (first | rw[Qa.next_push] | rw[Qa.next_set] | rw[Qa.next_up]));omega))) only[WO,Qs,Qt,Qu,Qv,sxA,sxB,Nat.reduceBEq,Nat.reduceEqDiff,reduceCtorEq,mxD,mxB,Nat.reduceAdd,reduceIte,Nat.reduceLeDiff,splice,t1,t2,t3,t4,z0,z2,w1,Qo]
   rw[Qag (ik:=.i64) (n:=256) (by simp only[uxA,uxB,Nat.reduceBEq])]
   simp(disch:=(first | omega | ((repeat (first | rw[Qa.next_push] | rw[Qa.next_set] | rw[Qa.next_up]));done) | ((repeat (first | rw[Qa.next_push] | rw[Qa.next_set] | rw[Qa.next_up]));omega))) only[sxA,sxB,Nat.reduceBEq,Nat.reduceEqDiff,reduceCtorEq,mxD,mxB,Nat.reduceAdd,reduceIte,Nat.reduceLeDiff,splice,z2,w2,w3,w4,Qo]
   unfold Qf4
   repeat' (first
    | (refine Qp (fun h=>?_) (fun h=>?_)<;>(try simp only[Bool.not_eq_true',Bool.not_eq_false']at h)<;>simp(disch:=(first | omega | ((repeat (first | rw[Qa.next_push] | rw[Qa.next_set] | rw[Qa.next_up]));done) | ((repeat (first | rw[Qa.next_push] | rw[Qa.next_set] | rw[Qa.next_up]));omega))) only[Qs,Qt,Qu,Qv,sxA,sxB,Nat.reduceBEq,Nat.reduceEqDiff,reduceCtorEq,mxD,mxB,Nat.reduceAdd,reduceIte,Nat.reduceLeDiff,splice,z2,w4,Qo,h])
    | (refine Qe (fun h=>?_) (fun h=>?_)<;>(try simp only[Bool.not_eq_true',Bool.not_eq_false']at h)<;>simp(disch:=(first | omega | ((repeat (first | rw[Qa.next_push] | rw[Qa.next_set] | rw[Qa.next_up]));done) | ((repeat (first | rw[Qa.next_push] | rw[Qa.next_set] | rw[Qa.next_up]));omega))) only[Qs,Qt,Qu,Qv,sxA,sxB,Nat.reduceBEq,Nat.reduceEqDiff,reduceCtorEq,mxD,mxB,Nat.reduceAdd,reduceIte,Nat.reduceLeDiff,splice,z2,w4,Qo,h])
    | fail)
   all_goals refine .mk (Nat.le_refl _) ⟨?_,rfl⟩
   all_goals (try simp_all)
   all_goals first
    | (rcases w5 with h9 | h9<;>first | exact h9 | omega)
    | (rcases w6 with h9 | h9<;>first | exact h9 | omega)
  ·have t1:((16:Int)==8)=false:=rfl
   have t2:((16:Int)==16)=true:=rfl
   have t3:((16:Int)==32)=false:=rfl
   have t4:((16:Int)==64)=false:=rfl
   have z0:((0:Int)≤16)=True:=eq_true (by decide)
   have w1:IntKind.i64.wrap (1 * 2 ^ min (Int.toNat 16) IntKind.i64.bits)=65536:=by decide
   have w2:IntKind.i64.wrap (-65536)=-65536:=by decide
   have w3:IntKind.i64.wrap ((-65536:Int).tdiv 2)=-(65536 / 2):=by decide
   have w4:IntKind.i64.wrap ((65536:Int).tdiv 2)=65536 / 2:=by decide
   have w5:IntKind.i64.wrap (n+65536)=n+65536∨¬n<0:=by
    by_cases h:n<0
    ·exact .inl (w64 (by unfold I64 at *;omega))
    ·exact .inr h
   have w6:IntKind.i64.wrap (n - 65536)=n - 65536∨¬65536 / 2≤n:=by
    by_cases h:65536 / 2≤n
    ·exact .inl (w64 (by unfold I64 at *;omega))
    ·exact .inr h
   rw[← QrZ]
   simp(disch:=(first | omega | ((repeat (first | rw[Qa.next_push] | rw[Qa.next_set] | rw[Qa.next_up]));done) | ((repeat (first | rw[Qa.next_push] | rw[Qa.next_set] | rw[Qa.next_up]));omega))) only[WO,Qs,Qt,Qu,Qv,sxA,sxB,Nat.reduceBEq,Nat.reduceEqDiff,reduceCtorEq,mxD,mxB,Nat.reduceAdd,reduceIte,Nat.reduceLeDiff,splice,t1,t2,t3,t4,z0,z2,w1,Qo]
   rw[Qag (ik:=.i64) (n:=65536) (by simp only[uxA,uxB,Nat.reduceBEq])]
   simp(disch:=(first | omega | ((repeat (first | rw[Qa.next_push] | rw[Qa.next_set] | rw[Qa.next_up]));done) | ((repeat (first | rw[Qa.next_push] | rw[Qa.next_set] | rw[Qa.next_up]));omega))) only[sxA,sxB,Nat.reduceBEq,Nat.reduceEqDiff,reduceCtorEq,mxD,mxB,Nat.reduceAdd,reduceIte,Nat.reduceLeDiff,splice,z2,w2,w3,w4,Qo]
   unfold Qf4
   repeat' (first
    | (refine Qp (fun h=>?_) (fun h=>?_)<;>(try simp only[Bool.not_eq_true',Bool.not_eq_false']at h)<;>simp(disch:=(first | omega | ((repeat (first | rw[Qa.next_push] | rw[Qa.next_set] | rw[Qa.next_up]));done) | ((repeat (first | rw[Qa.next_push] | rw[Qa.next_set] | rw[Qa.next_up]));omega))) only[Qs,Qt,Qu,Qv,sxA,sxB,Nat.reduceBEq,Nat.reduceEqDiff,reduceCtorEq,mxD,mxB,Nat.reduceAdd,reduceIte,Nat.reduceLeDiff,splice,z2,w4,Qo,h])
    | (refine Qe (fun h=>?_) (fun h=>?_)<;>(try simp only[Bool.not_eq_true',Bool.not_eq_false']at h)<;>simp(disch:=(first | omega | ((repeat (first | rw[Qa.next_push] | rw[Qa.next_set] | rw[Qa.next_up]));done) | ((repeat (first | rw[Qa.next_push] | rw[Qa.next_set] | rw[Qa.next_up]));omega))) only[Qs,Qt,Qu,Qv,sxA,sxB,Nat.reduceBEq,Nat.reduceEqDiff,reduceCtorEq,mxD,mxB,Nat.reduceAdd,reduceIte,Nat.reduceLeDiff,splice,z2,w4,Qo,h])
    | fail)
   all_goals refine .mk (Nat.le_refl _) ⟨?_,rfl⟩
   all_goals (try simp_all)
   all_goals first
    | (rcases w5 with h9 | h9<;>first | exact h9 | omega)
    | (rcases w6 with h9 | h9<;>first | exact h9 | omega)
  ·have t1:((32:Int)==8)=false:=rfl
   have t2:((32:Int)==16)=false:=rfl
   have t3:((32:Int)==32)=true:=rfl
   have t4:((32:Int)==64)=false:=rfl
   have z0:((0:Int)≤32)=True:=eq_true (by decide)
   have w1:IntKind.i64.wrap (1 * 2 ^ min (Int.toNat 32) IntKind.i64.bits)=4294967296:=by decide
   have w2:IntKind.i64.wrap (-4294967296)=-4294967296:=by decide
   have w3:IntKind.i64.wrap ((-4294967296:Int).tdiv 2)=-(4294967296 / 2):=by decide
   have w4:IntKind.i64.wrap ((4294967296:Int).tdiv 2)=4294967296 / 2:=by decide
   have w5:IntKind.i64.wrap (n+4294967296)=n+4294967296∨¬n<0:=by
    by_cases h:n<0
    ·exact .inl (w64 (by unfold I64 at *;omega))
    ·exact .inr h
   have w6:IntKind.i64.wrap (n - 4294967296)=n - 4294967296∨¬4294967296 / 2≤n:=by
    by_cases h:4294967296 / 2≤n
    ·exact .inl (w64 (by unfold I64 at *;omega))
    ·exact .inr h
   rw[← Qr0]
   simp(disch:=(first | omega | ((repeat (first | rw[Qa.next_push] | rw[Qa.next_set] | rw[Qa.next_up]));done) | ((repeat (first | rw[Qa.next_push] | rw[Qa.next_set] | rw[Qa.next_up]));omega))) only[WO,Qs,Qt,Qu,Qv,sxA,sxB,Nat.reduceBEq,Nat.reduceEqDiff,reduceCtorEq,mxD,mxB,Nat.reduceAdd,reduceIte,Nat.reduceLeDiff,splice,t1,t2,t3,t4,z0,z2,w1,Qo]
   rw[Qag (ik:=.i64) (n:=4294967296) (by simp only[uxA,uxB,Nat.reduceBEq])]
   simp(disch:=(first | omega | ((repeat (first | rw[Qa.next_push] | rw[Qa.next_set] | rw[Qa.next_up]));done) | ((repeat (first | rw[Qa.next_push] | rw[Qa.next_set] | rw[Qa.next_up]));omega))) only[sxA,sxB,Nat.reduceBEq,Nat.reduceEqDiff,reduceCtorEq,mxD,mxB,Nat.reduceAdd,reduceIte,Nat.reduceLeDiff,splice,z2,w2,w3,w4,Qo]
   unfold Qf4
   repeat' (first
    | (refine Qp (fun h=>?_) (fun h=>?_)<;>(try simp only[Bool.not_eq_true',Bool.not_eq_false']at h)<;>simp(disch:=(first | omega | ((repeat (first | rw[Qa.next_push] | rw[Qa.next_set] | rw[Qa.next_up]));done) | ((repeat (first | rw[Qa.next_push] | rw[Qa.next_set] | rw[Qa.next_up]));omega))) only[Qs,Qt,Qu,Qv,sxA,sxB,Nat.reduceBEq,Nat.reduceEqDiff,reduceCtorEq,mxD,mxB,Nat.reduceAdd,reduceIte,Nat.reduceLeDiff,splice,z2,w4,Qo,h])
    | (refine Qe (fun h=>?_) (fun h=>?_)<;>(try simp only[Bool.not_eq_true',Bool.not_eq_false']at h)<;>simp(disch:=(first | omega | ((repeat (first | rw[Qa.next_push] | rw[Qa.next_set] | rw[Qa.next_up]));done) | ((repeat (first | rw[Qa.next_push] | rw[Qa.next_set] | rw[Qa.next_up]));omega))) only[Qs,Qt,Qu,Qv,sxA,sxB,Nat.reduceBEq,Nat.reduceEqDiff,reduceCtorEq,mxD,mxB,Nat.reduceAdd,reduceIte,Nat.reduceLeDiff,splice,z2,w4,Qo,h])
    | fail)
   all_goals refine .mk (Nat.le_refl _) ⟨?_,rfl⟩
   all_goals (try simp_all)
   all_goals first
    | (rcases w5 with h9 | h9<;>first | exact h9 | omega)
    | (rcases w6 with h9 | h9<;>first | exact h9 | omega)
  ·have t1:((64:Int)==8)=false:=rfl
   have t2:((64:Int)==16)=false:=rfl
   have t3:((64:Int)==32)=false:=rfl
   have t4:((64:Int)==64)=true:=rfl
   simp(disch:=(first | omega | ((repeat (first | rw[Qa.next_push] | rw[Qa.next_set] | rw[Qa.next_up]));done) | ((repeat (first | rw[Qa.next_push] | rw[Qa.next_set] | rw[Qa.next_up]));omega))) only[WO,Qs,Qt,Qu,Qv,sxA,sxB,Nat.reduceBEq,Nat.reduceEqDiff,reduceCtorEq,mxD,mxB,Nat.reduceAdd,reduceIte,Nat.reduceLeDiff,splice,t1,t2,t3,t4,Qo]
   refine .mk (Nat.le_refl _) ⟨?_,rfl⟩
   have e1:QbH n 64=n:=rfl
   have e2:QbI n 64=n:=rfl
   simp[Yw,e1,e2]
 ·have t1:(bits==8)=false:=by simp;omega
  have t2:(bits==16)=false:=by simp;omega
  have t3:(bits==32)=false:=by simp;omega
  have t4:(bits==64)=false:=by simp;omega
  simp(disch:=(first | omega | ((repeat (first | rw[Qa.next_push] | rw[Qa.next_set] | rw[Qa.next_up]));done) | ((repeat (first | rw[Qa.next_push] | rw[Qa.next_set] | rw[Qa.next_up]));omega))) only[WO,Qs,Qt,Qu,Qv,sxA,sxB,Nat.reduceBEq,Nat.reduceEqDiff,reduceCtorEq,mxD,mxB,Nat.reduceAdd,reduceIte,Nat.reduceLeDiff,splice,t1,t2,t3,t4,Qo]
  refine .mk (Nat.le_refl _) ⟨?_,rfl⟩
  simp[Yw,t1,t2,t3,t4]
theorem Qer (o:Int) (H:Qa):Qf prog Jm [.int .i64 o] H fun u H'=>u=.tuple #[.int .i64 (Qf0 o).1,.bool (Qf0 o).2]∧H'=H:=by
 refine QdS fun hw=>?_
 have q1:=Vf o
 have hs:Qf0 o=if WI o=false then(0,false) else if(1≤o∧o≤10)∨o=16 then(0,true) else if o=48 then(64,true) else if o=51 then(16,false) else(8,false):=by
  unfold Qf0
  by_cases hv:WI o=false
  ·rw[if_pos hv,if_pos hv]
  ·rw[if_neg hv,if_neg hv]
   by_cases h:(1≤o∧o≤10)∨o=16
   ·rw[if_pos h,if_pos (by omega)]
   ·rw[if_neg h,if_neg (by omega)]
 rw[hs]
 clear hs
 generalize WI o=v at *
 simp(disch:=(first | omega | ((repeat (first | rw[Qa.next_push] | rw[Qa.next_set] | rw[Qa.next_up]));done) | ((repeat (first | rw[Qa.next_push] | rw[Qa.next_set] | rw[Qa.next_up]));omega))) only[Vr,WY,WZ,sxA,sxB,Nat.reduceBEq,Nat.reduceEqDiff,reduceCtorEq,mxD,mxB,Nat.reduceAdd,reduceIte,Nat.reduceLeDiff,splice,XY]
 repeat' (first
   | (refine Qp (fun h=>?_) (fun h=>?_)<;>(try simp only[Bool.not_eq_true',Bool.not_eq_false']at h)<;>simp(disch:=(first | omega | ((repeat (first | rw[Qa.next_push] | rw[Qa.next_set] | rw[Qa.next_up]));done) | ((repeat (first | rw[Qa.next_push] | rw[Qa.next_set] | rw[Qa.next_up]));omega))) only[WY,WZ,sxA,sxB,Nat.reduceBEq,Nat.reduceEqDiff,reduceCtorEq,mxD,mxB,Nat.reduceAdd,reduceIte,Nat.reduceLeDiff,splice,XY,h])
   | (refine Qe (fun h=>?_) (fun h=>?_)<;>(try simp only[Bool.not_eq_true',Bool.not_eq_false']at h)<;>simp(disch:=(first | omega | ((repeat (first | rw[Qa.next_push] | rw[Qa.next_set] | rw[Qa.next_up]));done) | ((repeat (first | rw[Qa.next_push] | rw[Qa.next_set] | rw[Qa.next_up]));omega))) only[WY,WZ,sxA,sxB,Nat.reduceBEq,Nat.reduceEqDiff,reduceCtorEq,mxD,mxB,Nat.reduceAdd,reduceIte,Nat.reduceLeDiff,splice,XY,h])
   | (refine(q1 _).thenW ?_;rintro _ _ hn hw2 ⟨rfl,rfl⟩;(try simp only[Qa.next_push,Qa.next_up,Qa.next_set]at hn);simp(disch:=(first | omega | ((repeat (first | rw[Qa.next_push] | rw[Qa.next_set] | rw[Qa.next_up]));done) | ((repeat (first | rw[Qa.next_push] | rw[Qa.next_set] | rw[Qa.next_up]));omega))) only[WY,WZ,sxA,sxB,Nat.reduceBEq,Nat.reduceEqDiff,reduceCtorEq,mxD,mxB,Nat.reduceAdd,reduceIte,Nat.reduceLeDiff,splice,XY])
   | (with_reducible refine⟨by simp[Qn,plain],by omega,?_⟩)
   | (with_reducible refine⟨by simp[Qn,plain],?_⟩)
   | fail)
 all_goals refine .mk (Nat.le_refl _) ⟨?_,rfl⟩
 all_goals clear q1
 all_goals (try simp_all)
 all_goals (rw[if_neg (by omega)];exact⟨rfl,rfl⟩)
theorem Qf5 (op:Int) (v:Value) (l:List Ar) (H:Qa) (hv:QY H v l) (hl:l.length≤1000):Qf prog Yj [.agg #[.int .i64 op,v]] H fun u H'=>u=.tuple #[.int .i64 (Wn op l).1,.bool (Wn op l).2]∧∃k,H'=H.up k:=by
 refine Qdc fun hw=>?_
 have q1:=Vf op
 have q2:=Qer op
 have hp:0≤(Qf0 op).1:=by unfold Qf0;repeat' (split<;>try decide)
 unfold Wn
 generalize WI op=v1 at *
 generalize Qf0 op=v2 at *
 obtain⟨v2a,v2b⟩:=v2
 simp only at hp
 obtain⟨a0,cap,rfl,h1⟩:=hv
 cases l with
 | nil=>
  have el0:(((0:Nat):Int)==0)=true:=rfl
  simp(disch:=(first | omega | ((repeat (first | rw[Qa.next_push] | rw[Qa.next_set] | rw[Qa.next_up]));done) | ((repeat (first | rw[Qa.next_push] | rw[Qa.next_set] | rw[Qa.next_up]));omega))) only[ZI,Qq,Qr,sxA,sxB,Nat.reduceBEq,Nat.reduceEqDiff,reduceCtorEq,mxD,mxB,Nat.reduceAdd,reduceIte,Nat.reduceLeDiff,splice,el0,QG]
  repeat' (first
    | (refine Qp (fun h=>?_) (fun h=>?_)<;>(try simp only[Bool.not_eq_true',Bool.not_eq_false']at h)<;>simp(disch:=(first | omega | ((repeat (first | rw[Qa.next_push] | rw[Qa.next_set] | rw[Qa.next_up]));done) | ((repeat (first | rw[Qa.next_push] | rw[Qa.next_set] | rw[Qa.next_up]));omega))) only[Qq,Qr,sxA,sxB,Nat.reduceBEq,Nat.reduceEqDiff,reduceCtorEq,mxD,mxB,Nat.reduceAdd,reduceIte,Nat.reduceLeDiff,splice,el0,QG,h])
    | (refine Qe (fun h=>?_) (fun h=>?_)<;>(try simp only[Bool.not_eq_true',Bool.not_eq_false']at h)<;>simp(disch:=(first | omega | ((repeat (first | rw[Qa.next_push] | rw[Qa.next_set] | rw[Qa.next_up]));done) | ((repeat (first | rw[Qa.next_push] | rw[Qa.next_set] | rw[Qa.next_up]));omega))) only[Qq,Qr,sxA,sxB,Nat.reduceBEq,Nat.reduceEqDiff,reduceCtorEq,mxD,mxB,Nat.reduceAdd,reduceIte,Nat.reduceLeDiff,splice,el0,QG,h])
    | (refine(q1 _).thenW ?_;rintro _ _ hn hw2 ⟨rfl,rfl⟩;(try simp only[Qa.next_push,Qa.next_up,Qa.next_set]at hn);simp(disch:=(first | omega | ((repeat (first | rw[Qa.next_push] | rw[Qa.next_set] | rw[Qa.next_up]));done) | ((repeat (first | rw[Qa.next_push] | rw[Qa.next_set] | rw[Qa.next_up]));omega))) only[Qq,Qr,sxA,sxB,Nat.reduceBEq,Nat.reduceEqDiff,reduceCtorEq,mxD,mxB,Nat.reduceAdd,reduceIte,Nat.reduceLeDiff,splice,el0,QG])
    | (refine(q2 _).thenW ?_;rintro _ _ hn hw2 ⟨rfl,rfl⟩;(try simp only[Qa.next_push,Qa.next_up,Qa.next_set]at hn);simp(disch:=(first | omega | ((repeat (first | rw[Qa.next_push] | rw[Qa.next_set] | rw[Qa.next_up]));done) | ((repeat (first | rw[Qa.next_push] | rw[Qa.next_set] | rw[Qa.next_up]));omega))) only[Qq,Qr,sxA,sxB,Nat.reduceBEq,Nat.reduceEqDiff,reduceCtorEq,mxD,mxB,Nat.reduceAdd,reduceIte,Nat.reduceLeDiff,splice,el0,QG])
    | (with_reducible refine⟨by simp[Qn,plain],by omega,?_⟩)
    | (with_reducible refine⟨by simp[Qn,plain],?_⟩)
    | fail)
  all_goals refine .ext hw ?_ ⟨?_,_,rfl⟩
  all_goals try (repeat' (first | exact Ext.refl _ | refine Ext.push ?_ _ | refine Ext.up ?_ (by simp only[Qa.next_push,Qa.next_set,Qa.next_up];omega) | refine Ext.set ?_ (by omega) _))
  all_goals clear q1 q2 hw
  all_goals (try simp_all)
  all_goals first
   | (have hz:v2a=0:=(by omega);simp[hz];done)
   | (have hz:v2a=0:=(by omega);subst hz;simp_all;done)
   | (have hz:¬v2a=0:=(by omega);simp[hz])
 | cons a l=>
  dsimp only
  have et0:(0:Int).toNat=0:=rfl
  have q3:=Qd3 a
  have h8:=QlQ a
  generalize Qd1 a=s at *
  obtain⟨b,e,ro,rfl,hgb⟩:=h1 (by simp)
  have el0:(((l.length+1:Nat):Int)==0)=false:=by simp;omega
  have ec1:((0:Int)≤0∧(0:Int)<((l.length+1:Nat):Int)):=by omega
  have hb:=hw.lt hgb
  have e8:IntKind.i64.wrap (8 * s)=8 * s:=w64 (by unfold I64;omega)
  have hd11:List.take 11 (Qh (a::l))=a.cells:=by
   have:=Y6 (a::l) 0 a rfl
   simpa using this
  have hle:11≤(Qh (a::l)).length:=by rw[QV];simp;omega
  simp(disch:=(first | omega | ((repeat (first | rw[Qa.next_push] | rw[Qa.next_set] | rw[Qa.next_up]));done) | ((repeat (first | rw[Qa.next_push] | rw[Qa.next_set] | rw[Qa.next_up]));omega))) only[ZI,Qq,Qr,sxA,sxB,Nat.reduceBEq,Nat.reduceEqDiff,reduceCtorEq,mxD,mxB,Nat.reduceAdd,reduceIte,Nat.reduceLeDiff,splice,el0,ec1,et0,hgb,hd11,hle,e8,QG]
  repeat' (first
    | (refine Qp (fun h=>?_) (fun h=>?_)<;>(try simp only[Bool.not_eq_true',Bool.not_eq_false']at h)<;>simp(disch:=(first | omega | ((repeat (first | rw[Qa.next_push] | rw[Qa.next_set] | rw[Qa.next_up]));done) | ((repeat (first | rw[Qa.next_push] | rw[Qa.next_set] | rw[Qa.next_up]));omega))) only[Qq,Qr,sxA,sxB,Nat.reduceBEq,Nat.reduceEqDiff,reduceCtorEq,mxD,mxB,Nat.reduceAdd,reduceIte,Nat.reduceLeDiff,splice,el0,ec1,et0,hgb,hd11,hle,e8,QG,h])
    | (refine Qe (fun h=>?_) (fun h=>?_)<;>(try simp only[Bool.not_eq_true',Bool.not_eq_false']at h)<;>simp(disch:=(first | omega | ((repeat (first | rw[Qa.next_push] | rw[Qa.next_set] | rw[Qa.next_up]));done) | ((repeat (first | rw[Qa.next_push] | rw[Qa.next_set] | rw[Qa.next_up]));omega))) only[Qq,Qr,sxA,sxB,Nat.reduceBEq,Nat.reduceEqDiff,reduceCtorEq,mxD,mxB,Nat.reduceAdd,reduceIte,Nat.reduceLeDiff,splice,el0,ec1,et0,hgb,hd11,hle,e8,QG,h])
    | (refine(q1 _).thenW ?_;rintro _ _ hn hw2 ⟨rfl,rfl⟩;(try simp only[Qa.next_push,Qa.next_up,Qa.next_set]at hn);simp(disch:=(first | omega | ((repeat (first | rw[Qa.next_push] | rw[Qa.next_set] | rw[Qa.next_up]));done) | ((repeat (first | rw[Qa.next_push] | rw[Qa.next_set] | rw[Qa.next_up]));omega))) only[Qq,Qr,sxA,sxB,Nat.reduceBEq,Nat.reduceEqDiff,reduceCtorEq,mxD,mxB,Nat.reduceAdd,reduceIte,Nat.reduceLeDiff,splice,el0,ec1,et0,hgb,hd11,hle,e8,QG])
    | (refine(q2 _).thenW ?_;rintro _ _ hn hw2 ⟨rfl,rfl⟩;(try simp only[Qa.next_push,Qa.next_up,Qa.next_set]at hn);simp(disch:=(first | omega | ((repeat (first | rw[Qa.next_push] | rw[Qa.next_set] | rw[Qa.next_up]));done) | ((repeat (first | rw[Qa.next_push] | rw[Qa.next_set] | rw[Qa.next_up]));omega))) only[Qq,Qr,sxA,sxB,Nat.reduceBEq,Nat.reduceEqDiff,reduceCtorEq,mxD,mxB,Nat.reduceAdd,reduceIte,Nat.reduceLeDiff,splice,el0,ec1,et0,hgb,hd11,hle,e8,QG])
    | (refine(q3 _).thenW ?_;rintro _ _ hn hw2 ⟨rfl,k,rfl⟩;(try simp only[Qa.next_push,Qa.next_up,Qa.next_set]at hn);simp(disch:=(first | omega | ((repeat (first | rw[Qa.next_push] | rw[Qa.next_set] | rw[Qa.next_up]));done) | ((repeat (first | rw[Qa.next_push] | rw[Qa.next_set] | rw[Qa.next_up]));omega))) only[Qq,Qr,sxA,sxB,Nat.reduceBEq,Nat.reduceEqDiff,reduceCtorEq,mxD,mxB,Nat.reduceAdd,reduceIte,Nat.reduceLeDiff,splice,el0,ec1,et0,hgb,hd11,hle,e8,QG])
    | (with_reducible refine⟨by simp[Qn,plain],by omega,?_⟩)
    | (with_reducible refine⟨by simp[Qn,plain],?_⟩)
    | fail)
  all_goals refine .ext hw ?_ ⟨?_,_,rfl⟩
  all_goals try (repeat' (first | exact Ext.refl _ | refine Ext.push ?_ _ | refine Ext.up ?_ (by simp only[Qa.next_push,Qa.next_set,Qa.next_up];omega) | refine Ext.set ?_ (by omega) _))
  all_goals clear q1 q2 hw
  all_goals (try simp_all)
  all_goals first
   | (have hz:v2a=0:=(by omega);simp[hz];done)
   | (have hz:v2a=0:=(by omega);subst hz;simp_all;done)
   | (have hz:¬v2a=0:=(by omega);simp[hz])
theorem Qk1 (op:Int) (v:Value) (l:List Ar) (kd:Int) (H:Qa) (hv:QY H v l) (hl:l.length≤1000):Qf prog Xy [.agg #[.int .i64 op,v],.int .i64 kd] H fun u H'=>u=.int .i64 (Wz kd l)∧∃k,H'=H.up k:=by
 refine Qdg fun hw=>?_
 obtain⟨a0,cap,rfl,h1⟩:=hv
 simp(disch:=(first | omega | ((repeat (first | rw[Qa.next_push] | rw[Qa.next_set] | rw[Qa.next_up]));done) | ((repeat (first | rw[Qa.next_push] | rw[Qa.next_set] | rw[Qa.next_up]));omega))) only[GN,sxA,sxB,Nat.reduceBEq,Nat.reduceEqDiff,reduceCtorEq,mxD,mxB,Nat.reduceAdd,reduceIte,Nat.reduceLeDiff,splice]
 refine Wq (fun m A' H'=>∃i:Nat,i≤l.length∧m=l.length - i∧Ext H H'∧H.next<H'.next∧H'.get H.next=some (.cells [.int .i64 op,.slice a0 l.length cap] Qb false)∧A' 1=.int .i64 kd∧A' 2=.pointer (some ⟨H.next,0,none⟩)∧A' 5=.int .i64 (Wz kd (l.take i))∧A' 6=.int .i64 i) l.length ?_ ?_
 ·refine⟨0,Nat.zero_le _,by omega,(Ext.refl H).push _,by rw[Qa.next_push];omega,by rw[Qa.get_push,if_pos rfl],?_,?_,?_,?_⟩
  all_goals simp only[uxA,uxB,Nat.reduceBEq]
  all_goals rfl
 ·rintro m A' H' ⟨i,hi,rfl,hx,hb0,g0,r1,r2,r5,r6⟩
  simp(disch:=(first | omega | ((repeat (first | rw[Qa.next_push] | rw[Qa.next_set] | rw[Qa.next_up]));done) | ((repeat (first | rw[Qa.next_push] | rw[Qa.next_set] | rw[Qa.next_up]));omega))) only[Kw,sxA,sxB,Nat.reduceBEq,Nat.reduceEqDiff,reduceCtorEq,mxD,mxB,Nat.reduceAdd,reduceIte,Nat.reduceLeDiff,splice,g0,r1,r2,r5,r6]
  refine Qe (fun h2=>?_) (fun h2=>?_)
  ·have h2:i<l.length:=by have:=of_decide_eq_true h2;omega
   obtain⟨a,ha⟩:∃a,l[i]? = some a:=⟨_,List.getElem?_eq_getElem h2⟩
   obtain⟨b,e,ro,rfl,hgb0⟩:=h1 (by omega)
   have hbl:=hw.lt hgb0
   have hgb:H'.get b=some (.cells (Qh l) e ro):=by rw[hx.get b hbl];exact hgb0
   have htk:=Y6 l i a ha
   have hle:i * 11+11≤(Qh l).length:=by rw[QV];omega
   have d1:(0:Int)≤i∧(i:Int)<l.length:=by omega
   have d3:(i:Int).toNat=i:=by omega
   have ei:IntKind.i64.wrap ((i:Int)+1)=((i+1:Nat):Int):=by rw[w64 (by unfold I64;omega)];omega
   have bk:=Qcs kd (l.take i)
   have hlt:(l.take i).length≤1000:=by rw[List.length_take];omega
   have ek:IntKind.i64.wrap (Wz kd (l.take i)+1)=Wz kd (l.take i)+1:=w64 (by unfold I64;omega)
   have sk:=QbK kd (l.take i) a
   rw[← Qgy l i a ha]at sk
   have hk0:(Qh l)[i * 11]? = some (.int .i64 a.k):=by
    have:=congrArg (·[0]?) htk
    simp only[List.getElem?_take,List.getElem?_drop,Ar.cells]at this
    simpa using this
   simp(disch:=(first | omega | ((repeat (first | rw[Qa.next_push] | rw[Qa.next_set] | rw[Qa.next_up]));done) | ((repeat (first | rw[Qa.next_push] | rw[Qa.next_set] | rw[Qa.next_up]));omega))) only[Kv,sxA,sxB,Nat.reduceBEq,Nat.reduceEqDiff,reduceCtorEq,mxD,mxB,Nat.reduceAdd,reduceIte,Nat.reduceLeDiff,splice,g0,r1,r2,r5,r6,d1,d3,hgb,hk0,ei]
   refine Qe (fun h=>?_) (fun h=>?_)
   all_goals simp(disch:=(first | omega | ((repeat (first | rw[Qa.next_push] | rw[Qa.next_set] | rw[Qa.next_up]));done) | ((repeat (first | rw[Qa.next_push] | rw[Qa.next_set] | rw[Qa.next_up]));omega))) only[sxA,sxB,Nat.reduceBEq,Nat.reduceEqDiff,reduceCtorEq,mxD,mxB,Nat.reduceAdd,reduceIte,Nat.reduceLeDiff,splice,r5,r6,ei,ek]
   all_goals refine⟨l.length - (i+1),by omega,i+1,by omega,rfl,hx,hb0,g0,?_,?_,?_,?_⟩
   all_goals (try simp only[uxA,uxB,Nat.reduceBEq,r1,r2,r5])
   all_goals (rw[sk,h];simp)
  ·have h2:i=l.length:=by have:=of_decide_eq_false h2;omega
   subst h2
   simp(disch:=(first | omega | ((repeat (first | rw[Qa.next_push] | rw[Qa.next_set] | rw[Qa.next_up]));done) | ((repeat (first | rw[Qa.next_push] | rw[Qa.next_set] | rw[Qa.next_up]));omega))) only[sxA,sxB,Nat.reduceBEq,Nat.reduceEqDiff,reduceCtorEq,mxD,mxB,Nat.reduceAdd,reduceIte,Nat.reduceLeDiff,splice,r5,Qcl]
   refine .ext hw hx ⟨by rw[List.take_length],_,rfl⟩
def Qcw (ib:Int×Bool):List Ar→Int
 | []=>0
 | a::l=>if(a.k==3)=true then(if((Yw a.n ib.1 ib.2).2==0)=true then Qcw ib l else(Yw a.n ib.1 ib.2).2) else Qcw ib l
def VJ (op:Int) (l:List Ar):Int:=
 if WI op=false then 6 else if l.length>4 then 3 else if(Qaq l==0)=false then Qaq l
 else if(decide (1<Wz 2 l)||decide (1<Wz 3 l)||decide (1<Wz 4 l))=true then 2
 else Qcw (Wn op l) l
theorem QgA (ib:Int×Bool):∀ (l:List Ar) (n:Int),Wz 3 l=0→Qcw ib l=0∧QbJ n l=n
 | [],n,_=>⟨rfl,rfl⟩
 | a::l,n,h=>by
  have hp:=(Qcs 3 l).1
  unfold Wz at h
  cases hk:a.k==3 with
  | true=>rw[hk]at h;simp at h;omega
  | false=>
   rw[hk]at h
   unfold Qcw QbJ
   rw[hk]
   simpa using QgA ib l n (by simpa using h)
theorem QlZ (ib:Int×Bool):∀ (l:List Ar) (n:Int),Wz 3 l=1→Qcw ib l=(Yw (QbJ n l) ib.1 ib.2).2
 | [],n,h=>by simp[Wz]at h
 | a::l,n,h=>by
  unfold Wz at h
  cases hk:a.k==3 with
  | true=>
   rw[hk]at h
   obtain⟨h1,h2⟩:=QgA ib l a.n (by simp at h;omega)
   unfold Qcw QbJ
   rw[hk]
   simp only[if_true,h1,h2]
   split
   ·rename_i h3;exact(beq_iff_eq.1 h3).symm
   ·rfl
  | false=>
   rw[hk]at h
   unfold Qcw QbJ
   rw[hk]
   simpa using QlZ ib l n (by simpa using h)
theorem Qj3 (op:Int) (l:List Ar):VJ op l=WG op l:=by
 unfold VJ WG
 split
 ·rfl
 split
 ·rfl
 split
 ·rfl
 have hp:=Qcs 3 l
 have hc:(decide (1<Wz 2 l)||decide (1<Wz 3 l)||decide (1<Wz 4 l))=(decide (1<Wz 2 l)||decide (1<Wz 4 l)||decide (1<Wz 3 l)):=by rw[Bool.or_assoc,Bool.or_comm (decide (1<Wz 3 l)),← Bool.or_assoc]
 rw[hc]
 split
 ·rfl
 rename_i h
 have h3:Wz 3 l≤1:=by
  simp only[Bool.or_eq_true,decide_eq_true_eq,not_or]at h
  omega
 by_cases h0:Wz 3 l=0
 ·rw[(QgA _ l 0 h0).1,h0];rfl
 ·rw[if_neg (by simpa using h0),QlZ _ l 0 (by omega)]
  split
  ·rename_i hb
   unfold Yw
   rw[if_pos]
   have:=beq_iff_eq.1 hb
   rw[this];rfl
  ·rfl
theorem Qj4 (ib:Int×Bool):∀ (l:List Ar) (i:Nat) (a:Ar),l[i]? = some a→Qcw ib (l.drop i)=if(a.k==3)=true then(if((Yw a.n ib.1 ib.2).2==0)=true then Qcw ib (l.drop (i+1)) else(Yw a.n ib.1 ib.2).2) else Qcw ib (l.drop (i+1))
 | [],i,a,h=>by simp at h
 | b::l,0,a,h=>by simp at h;subst h;rfl
 | b::l,i+1,a,h=>by simpa using Qj4 ib l i a (by simpa using h)
def rcF (H:Qa) (op:Int) (v:Value) (A:Env) (H':Qa):Prop:=Ext H H'∧H.next<H'.next∧A 1=.pointer (some ⟨H.next,0,none⟩)∧H'.get H.next=some (.cells [.int .i64 op,v] Qb false)
theorem rcF.env {H H':Qa} {op:Int} {v:Value} {A B:Env} (h:rcF H op v A H') (h1:B 1=A 1):rcF H op v B H':=⟨h.1,h.2.1,h1.trans h.2.2.1,h.2.2.2⟩
theorem rcF.up {H H':Qa} {op:Int} {v:Value} {A:Env} (h:rcF H op v A H') {k:Nat} (hk:H'.next≤k):rcF H op v A (H'.up k):=⟨h.1.up hk,by have:=h.2.1;rw[Qa.next_up];omega,h.2.2.1,by rw[Qa.get_up];exact h.2.2.2⟩
structure AtI (H':Qa) (l:List Ar) (i b:Nat) (a:Ar):Prop where
 g:∃e ro,H'.get b=some (.cells (Qh l) e ro)
 d1:(0:Int)≤i∧(i:Int)<l.length
 d3:(i:Int).toNat=i
 tk:List.take 11 (List.drop (i * 11) (Qh l))=a.cells
 le:i * 11+11≤(Qh l).length
 k:(Qh l)[i * 11]? = some (.int .i64 a.k)
 n:(Qh l)[i * 11+10]? = some (.int .i64 a.n)
 ei:IntKind.i64.wrap ((i:Int)+1)=((i+1:Nat):Int)
theorem atI {H H':Qa} {l:List Ar} {i:Nat} {a:Ar} {a0:Option Addr} {cap:Nat} (hv:QY H (.slice a0 l.length cap) l) (hw:H.Wf) (hx:Ext H H') (hl:l.length≤1000) (ha:l[i]? = some a):∃b,a0=some ⟨b,0,none⟩∧b<H.next∧AtI H' l i b a:=by
 have h2:i<l.length:=(List.getElem?_eq_some_iff.1 ha).1
 obtain⟨a1,cap1,e1,h1⟩:=hv
 cases e1
 obtain⟨b,e,ro,rfl,hgb0⟩:=h1 (by omega)
 have hbl:=hw.lt hgb0
 have htk:=Y6 l i a ha
 refine⟨b,rfl,hbl,⟨e,ro,by rw[hx.get b hbl];exact hgb0⟩,by omega,by omega,htk,by rw[QV];omega,?_,?_,by rw[w64 (by unfold I64;omega)];omega⟩
 ·have:=congrArg (·[0]?) htk
  simp only[List.getElem?_take,List.getElem?_drop,Ar.cells]at this
  simpa using this
 ·have:=congrArg (·[10]?) htk
  simp only[List.getElem?_take,List.getElem?_drop,Ar.cells]at this
  simpa using this
section
variable {H:Qa} {op:Int} {a0:Option Addr} {cap:Nat} {l:List Ar}
abbrev KK (H:Qa) (op:Int) (l:List Ar):Value→Qa→Prop:=fun u H'=>u=.int .i64 (VJ op l)∧∃k,H'=H.up k
abbrev KR (H:Qa) (op:Int) (l:List Ar):Env→Qa→Prop:=Rt prog Qdb H (KK H op l)
theorem Qtm (hw:H.Wf) (hv:QY H (.slice a0 l.length cap) l) (hl:l.length≤1000) (hI:∀a∈l,I64 a.n) (c1:WI op=true) (c2:l.length≤4) (c3:(Qaq l==0)=true) (c4:(decide (1<Wz 2 l)||decide (1<Wz 3 l)||decide (1<Wz 4 l))=false) (A:Env) (H1:Qa) (hw1:H1.Wf) (hF:rcF H op (.slice a0 l.length cap) A H1):
  Qj prog YF ⟨KR H op l,Y8⟩ (KR H op l) A H1:=by
 have hrc:VJ op l=Qcw (Wn op l) l:=by
  unfold VJ
  rw[if_neg (by simp[c1]),if_neg (by omega),if_neg (by simp[c3]),if_neg (by simp[c4])]
 simp(disch:=(first | omega | ((repeat (first | rw[Qa.next_push] | rw[Qa.next_set] | rw[Qa.next_up]));done) | ((repeat (first | rw[Qa.next_push] | rw[Qa.next_set] | rw[Qa.next_up]));omega))) only[YF,sxA,sxB,Nat.reduceBEq,Nat.reduceEqDiff,reduceCtorEq,mxD,mxB,Nat.reduceAdd,reduceIte,Nat.reduceLeDiff,splice]
 refine Wq (fun m A' H'=>∃i:Nat,i≤l.length∧m=l.length - i∧H'.Wf∧rcF H op (.slice a0 l.length cap) A' H'∧A' 5=.int .i64 i∧Qcw (Wn op l) l=Qcw (Wn op l) (l.drop i)) l.length ?_ ?_
 ·refine⟨0,Nat.zero_le _,by omega,hw1,hF.env ?_,?_,rfl⟩
  all_goals simp only[uxA,uxB,Nat.reduceBEq]
  rfl
 ·rintro m A' H' ⟨i,hi,rfl,hw',⟨hx,hb0,r1,g0⟩,r5,he⟩
  simp(disch:=(first | omega | ((repeat (first | rw[Qa.next_push] | rw[Qa.next_set] | rw[Qa.next_up]));done) | ((repeat (first | rw[Qa.next_push] | rw[Qa.next_set] | rw[Qa.next_up]));omega))) only[JA,sxA,sxB,Nat.reduceBEq,Nat.reduceEqDiff,reduceCtorEq,mxD,mxB,Nat.reduceAdd,reduceIte,Nat.reduceLeDiff,splice,g0,r1,r5]
  refine Qe (fun h2=>?_) (fun h2=>?_)
  ·have h2:i<l.length:=by have:=of_decide_eq_true h2;omega
   obtain⟨a,ha⟩:∃a,l[i]? = some a:=⟨_,List.getElem?_eq_getElem h2⟩
   obtain⟨b,rfl,hbl,⟨e,ro,hgb⟩,d1,d3,htk,hle,hk,hn,ei⟩:=atI hv hw hx hl ha
   rw[Qj4 _ l i a ha]at he
   have han:=hI a (List.mem_of_getElem? ha)
   simp(disch:=(first | omega | ((repeat (first | rw[Qa.next_push] | rw[Qa.next_set] | rw[Qa.next_up]));done) | ((repeat (first | rw[Qa.next_push] | rw[Qa.next_set] | rw[Qa.next_up]));omega))) only[Jz,sxA,sxB,Nat.reduceBEq,Nat.reduceEqDiff,reduceCtorEq,mxD,mxB,Nat.reduceAdd,reduceIte,Nat.reduceLeDiff,splice,g0,r1,r5,d1,d3,hgb,hk]
   refine Qe (fun h=>?_) (fun h=>?_)
   ·have h3:(a.k==3)=false:=by simpa using h
    rw[h3]at he
    simp(disch:=(first | omega | ((repeat (first | rw[Qa.next_push] | rw[Qa.next_set] | rw[Qa.next_up]));done) | ((repeat (first | rw[Qa.next_push] | rw[Qa.next_set] | rw[Qa.next_up]));omega))) only[sxA,sxB,Nat.reduceBEq,Nat.reduceEqDiff,reduceCtorEq,mxD,mxB,Nat.reduceAdd,reduceIte,Nat.reduceLeDiff,splice,r5,ei]
    refine⟨l.length - (i+1),by omega,i+1,by omega,rfl,hw',⟨hx,hb0,?_,g0⟩,?_,by simpa using he⟩
    all_goals simp only[uxA,uxB,Nat.reduceBEq,r1]
   ·have h3:(a.k==3)=true:=by simpa using h
    rw[h3]at he
    simp only[if_true]at he
    simp(disch:=(first | omega | ((repeat (first | rw[Qa.next_push] | rw[Qa.next_set] | rw[Qa.next_up]));done) | ((repeat (first | rw[Qa.next_push] | rw[Qa.next_set] | rw[Qa.next_up]));omega))) only[Jy,sxA,sxB,Nat.reduceBEq,Nat.reduceEqDiff,reduceCtorEq,mxD,mxB,Nat.reduceAdd,reduceIte,Nat.reduceLeDiff,splice,g0,r1,r5]
    refine(Qf5 op _ l H' (hv.ext hw hx) hl).thenW ?_
    rintro _ _ hn2 hw2 ⟨rfl,k,rfl⟩
    have hbk:H.next<k:=Nat.lt_of_lt_of_le hb0 hn2
    simp(disch:=(first | omega | ((repeat (first | rw[Qa.next_push] | rw[Qa.next_set] | rw[Qa.next_up]));done) | ((repeat (first | rw[Qa.next_push] | rw[Qa.next_set] | rw[Qa.next_up]));omega))) only[sxA,sxB,Nat.reduceBEq,Nat.reduceEqDiff,reduceCtorEq,mxD,mxB,Nat.reduceAdd,reduceIte,Nat.reduceLeDiff,splice,g0,r1,r5,d1,d3,hgb,hn]
    refine(Qhf a.n _ _ han _).thenW ?_
    rintro _ _ hn3 hw3 ⟨rfl,rfl⟩
    generalize hE:Qcw (Wn op l) (l.drop (i+1))=er at he
    generalize himm:Yw a.n (Wn op l).1 (Wn op l).2=im at *
    simp(disch:=(first | omega | ((repeat (first | rw[Qa.next_push] | rw[Qa.next_set] | rw[Qa.next_up]));done) | ((repeat (first | rw[Qa.next_push] | rw[Qa.next_set] | rw[Qa.next_up]));omega))) only[sxA,sxB,Nat.reduceBEq,Nat.reduceEqDiff,reduceCtorEq,mxD,mxB,Nat.reduceAdd,reduceIte,Nat.reduceLeDiff,splice,r5]
    refine Qe (fun h4=>?_) (fun h4=>?_)
    ·have h4:(im.2==0)=false:=by simpa using h4
     rw[h4]at he
     simp(disch:=(first | omega | ((repeat (first | rw[Qa.next_push] | rw[Qa.next_set] | rw[Qa.next_up]));done) | ((repeat (first | rw[Qa.next_push] | rw[Qa.next_set] | rw[Qa.next_up]));omega))) only[sxA,sxB,Nat.reduceBEq,Nat.reduceEqDiff,reduceCtorEq,mxD,mxB,Nat.reduceAdd,reduceIte,Nat.reduceLeDiff,splice,Wk]
     exact .ext hw (hx.up hn2) ⟨by rw[hrc,he];simp,_,rfl⟩
    ·have h4:(im.2==0)=true:=by simpa using h4
     rw[h4]at he
     simp(disch:=(first | omega | ((repeat (first | rw[Qa.next_push] | rw[Qa.next_set] | rw[Qa.next_up]));done) | ((repeat (first | rw[Qa.next_push] | rw[Qa.next_set] | rw[Qa.next_up]));omega))) only[sxA,sxB,Nat.reduceBEq,Nat.reduceEqDiff,reduceCtorEq,mxD,mxB,Nat.reduceAdd,reduceIte,Nat.reduceLeDiff,splice,r5,ei]
     refine⟨l.length - (i+1),by omega,i+1,by omega,rfl,hw2,⟨hx.up hn2,hbk,?_,g0⟩,?_,by rw[hE];simpa using he⟩
     all_goals simp only[uxA,uxB,Nat.reduceBEq,r1]
  ·have h2:i=l.length:=by have:=of_decide_eq_false h2;omega
   subst h2
   rw[List.drop_length]at he
   simp(disch:=(first | omega | ((repeat (first | rw[Qa.next_push] | rw[Qa.next_set] | rw[Qa.next_up]));done) | ((repeat (first | rw[Qa.next_push] | rw[Qa.next_set] | rw[Qa.next_up]));omega))) only[sxA,sxB,Nat.reduceBEq,Nat.reduceEqDiff,reduceCtorEq,mxD,mxB,Nat.reduceAdd,reduceIte,Nat.reduceLeDiff,splice,Wk]
   exact .ext hw hx ⟨by rw[hrc,he];rfl,_,rfl⟩
theorem Qr1 (hw:H.Wf) (hv:QY H (.slice a0 l.length cap) l) (hl:l.length≤1000) (hI:∀a∈l,I64 a.n) (c1:WI op=true) (c2:l.length≤4) (c3:(Qaq l==0)=true) (A:Env) (H1:Qa) (hw1:H1.Wf) (hF:rcF H op (.slice a0 l.length cap) A H1):
  Qj prog YG ⟨KR H op l,Y8⟩ (KR H op l) A H1:=by
 have P4:=fun c4=>Qtm (op:=op) hw hv hl hI c1 c2 c3 c4
 have hrc:(decide (1<Wz 2 l)||decide (1<Wz 3 l)||decide (1<Wz 4 l))=true→VJ op l=2:=fun h=>by
  unfold VJ
  rw[if_neg (by simp[c1]),if_neg (by omega),if_neg (by simp[c3]),if_pos h]
 obtain⟨hx,hb0,r1,g0⟩:=hF
 have qm:=fun kd H' (hx:Ext H H')=>Qk1 op _ l kd H' (hv.ext hw hx) hl
 simp(disch:=(first | omega | ((repeat (first | rw[Qa.next_push] | rw[Qa.next_set] | rw[Qa.next_up]));done) | ((repeat (first | rw[Qa.next_push] | rw[Qa.next_set] | rw[Qa.next_up]));omega))) only[YG,sxA,sxB,Nat.reduceBEq,Nat.reduceEqDiff,reduceCtorEq,mxD,mxB,Nat.reduceAdd,reduceIte,Nat.reduceLeDiff,splice,g0,r1]
 refine(qm 2 H1 hx).thenW ?_
 rintro _ _ hn2 hw2 ⟨rfl,k2,rfl⟩
 have hx2:=hx.up hn2
 have hb2:H.next<k2:=Nat.lt_of_lt_of_le hb0 hn2
 simp(disch:=(first | omega | ((repeat (first | rw[Qa.next_push] | rw[Qa.next_set] | rw[Qa.next_up]));done) | ((repeat (first | rw[Qa.next_push] | rw[Qa.next_set] | rw[Qa.next_up]));omega))) only[sxA,sxB,Nat.reduceBEq,Nat.reduceEqDiff,reduceCtorEq,mxD,mxB,Nat.reduceAdd,reduceIte,Nat.reduceLeDiff,splice,g0,r1]
 have fin:∀A H',Ext H H'→(decide (1<Wz 2 l)||decide (1<Wz 3 l)||decide (1<Wz 4 l))=true→(A 2=.int .i64 2)→KR H op l A H':=fun A H' hx h r2=>by
  simp(disch:=(first | omega | ((repeat (first | rw[Qa.next_push] | rw[Qa.next_set] | rw[Qa.next_up]));done) | ((repeat (first | rw[Qa.next_push] | rw[Qa.next_set] | rw[Qa.next_up]));omega))) only[KR,Wk,r2]
  exact .ext hw hx ⟨by rw[hrc h],_,rfl⟩
 cases h:decide (1<Wz 2 l) with
 | true=>
  rw[h]at fin
  simp(disch:=(first | omega | ((repeat (first | rw[Qa.next_push] | rw[Qa.next_set] | rw[Qa.next_up]));done) | ((repeat (first | rw[Qa.next_push] | rw[Qa.next_set] | rw[Qa.next_up]));omega))) only[sxA,sxB,Nat.reduceBEq,Nat.reduceEqDiff,reduceCtorEq,mxD,mxB,Nat.reduceAdd,reduceIte,Nat.reduceLeDiff,splice,h]
  refine fin _ _ hx2 (by simp) ?_
  simp only[uxA,uxB,Nat.reduceBEq]
 | false=>
  simp(disch:=(first | omega | ((repeat (first | rw[Qa.next_push] | rw[Qa.next_set] | rw[Qa.next_up]));done) | ((repeat (first | rw[Qa.next_push] | rw[Qa.next_set] | rw[Qa.next_up]));omega))) only[sxA,sxB,Nat.reduceBEq,Nat.reduceEqDiff,reduceCtorEq,mxD,mxB,Nat.reduceAdd,reduceIte,Nat.reduceLeDiff,splice,h,g0,r1]
  refine(qm 3 _ hx2).thenW ?_
  rintro _ _ hn3 hw3 ⟨rfl,k3,rfl⟩
  have hx3:=hx2.up hn3
  have hb3:H.next<k3:=Nat.lt_of_lt_of_le hb2 hn3
  cases h3:decide (1<Wz 3 l) with
  | true=>
   rw[h3]at fin
   simp(disch:=(first | omega | ((repeat (first | rw[Qa.next_push] | rw[Qa.next_set] | rw[Qa.next_up]));done) | ((repeat (first | rw[Qa.next_push] | rw[Qa.next_set] | rw[Qa.next_up]));omega))) only[sxA,sxB,Nat.reduceBEq,Nat.reduceEqDiff,reduceCtorEq,mxD,mxB,Nat.reduceAdd,reduceIte,Nat.reduceLeDiff,splice,h3]
   refine fin _ _ hx3 (by simp) ?_
   simp only[uxA,uxB,Nat.reduceBEq]
  | false=>
   simp(disch:=(first | omega | ((repeat (first | rw[Qa.next_push] | rw[Qa.next_set] | rw[Qa.next_up]));done) | ((repeat (first | rw[Qa.next_push] | rw[Qa.next_set] | rw[Qa.next_up]));omega))) only[sxA,sxB,Nat.reduceBEq,Nat.reduceEqDiff,reduceCtorEq,mxD,mxB,Nat.reduceAdd,reduceIte,Nat.reduceLeDiff,splice,h3,g0,r1]
   refine(qm 4 _ hx3).thenW ?_
   rintro _ _ hn4 hw4 ⟨rfl,k4,rfl⟩
   have hx4:=hx3.up hn4
   have hb4:H.next<k4:=Nat.lt_of_lt_of_le hb3 hn4
   cases h4:decide (1<Wz 4 l) with
   | true=>
    rw[h4]at fin
    simp(disch:=(first | omega | ((repeat (first | rw[Qa.next_push] | rw[Qa.next_set] | rw[Qa.next_up]));done) | ((repeat (first | rw[Qa.next_push] | rw[Qa.next_set] | rw[Qa.next_up]));omega))) only[sxA,sxB,Nat.reduceBEq,Nat.reduceEqDiff,reduceCtorEq,mxD,mxB,Nat.reduceAdd,reduceIte,Nat.reduceLeDiff,splice,h4]
    refine fin _ _ hx4 (by simp) ?_
    simp only[uxA,uxB,Nat.reduceBEq]
   | false=>
    simp(disch:=(first | omega | ((repeat (first | rw[Qa.next_push] | rw[Qa.next_set] | rw[Qa.next_up]));done) | ((repeat (first | rw[Qa.next_push] | rw[Qa.next_set] | rw[Qa.next_up]));omega))) only[sxA,sxB,Nat.reduceBEq,Nat.reduceEqDiff,reduceCtorEq,mxD,mxB,Nat.reduceAdd,reduceIte,Nat.reduceLeDiff,splice,h4]
    refine P4 (by rw[h,h3,h4];rfl) _ _ hw4 ⟨hx4,hb4,?_,g0⟩
    simp only[uxA,uxB,Nat.reduceBEq,r1]
end
theorem Qjo (op:Int) (v:Value) (l:List Ar) (H:Qa) (hv:QY H v l) (hl:l.length≤1000) (hI:∀a∈l,I64 a.n):Qf prog ZB [.agg #[.int .i64 op,v]] H fun u H'=>u=.int .i64 (WG op l)∧∃k,H'=H.up k:=by
 rw[← Qj3]
 refine Qcf fun hw=>?_
 obtain⟨a0,cap,rfl⟩:=XG hv
 simp(disch:=(first | omega | ((repeat (first | rw[Qa.next_push] | rw[Qa.next_set] | rw[Qa.next_up]));done) | ((repeat (first | rw[Qa.next_push] | rw[Qa.next_set] | rw[Qa.next_up]));omega))) only[K4,sxA,sxB,Nat.reduceBEq,Nat.reduceEqDiff,reduceCtorEq,mxD,mxB,Nat.reduceAdd,reduceIte,Nat.reduceLeDiff,splice]
 refine(Vf op _).thenW ?_
 rintro _ H1 hn1 hw1 ⟨rfl,hH1⟩
 have hx1:Ext H H1:=by rw[hH1];exact(Ext.refl H).push _
 have g1:H1.get H.next=some (.cells [.int .i64 op,.slice a0 l.length cap] Qb false):=by rw[hH1,Qa.get_push,if_pos rfl]
 have hb1:H.next<H1.next:=by rw[hH1,Qa.next_push];omega
 clear hH1
 simp(disch:=(first | omega | ((repeat (first | rw[Qa.next_push] | rw[Qa.next_set] | rw[Qa.next_up]));done) | ((repeat (first | rw[Qa.next_push] | rw[Qa.next_set] | rw[Qa.next_up]));omega))) only[sxA,sxB,Nat.reduceBEq,Nat.reduceEqDiff,reduceCtorEq,mxD,mxB,Nat.reduceAdd,reduceIte,Nat.reduceLeDiff,splice]
 cases c1:WI op with
 | false=>
  simp(disch:=(first | omega | ((repeat (first | rw[Qa.next_push] | rw[Qa.next_set] | rw[Qa.next_up]));done) | ((repeat (first | rw[Qa.next_push] | rw[Qa.next_set] | rw[Qa.next_up]));omega))) only[sxA,sxB,Nat.reduceBEq,Nat.reduceEqDiff,reduceCtorEq,mxD,mxB,Nat.reduceAdd,reduceIte,Nat.reduceLeDiff,splice,Wk]
  exact .ext hw hx1 ⟨by unfold VJ;rw[if_pos c1],_,rfl⟩
 | true=>
  simp(disch:=(first | omega | ((repeat (first | rw[Qa.next_push] | rw[Qa.next_set] | rw[Qa.next_up]));done) | ((repeat (first | rw[Qa.next_push] | rw[Qa.next_set] | rw[Qa.next_up]));omega))) only[JE,sxA,sxB,Nat.reduceBEq,Nat.reduceEqDiff,reduceCtorEq,mxD,mxB,Nat.reduceAdd,reduceIte,Nat.reduceLeDiff,splice,g1]
  refine Qe (fun h=>?_) (fun h=>?_)
  ·have c2:4<l.length:=by have:=of_decide_eq_true h;omega
   simp(disch:=(first | omega | ((repeat (first | rw[Qa.next_push] | rw[Qa.next_set] | rw[Qa.next_up]));done) | ((repeat (first | rw[Qa.next_push] | rw[Qa.next_set] | rw[Qa.next_up]));omega))) only[sxA,sxB,Nat.reduceBEq,Nat.reduceEqDiff,reduceCtorEq,mxD,mxB,Nat.reduceAdd,reduceIte,Nat.reduceLeDiff,splice,Wk]
   exact .ext hw hx1 ⟨by unfold VJ;rw[if_neg (by simp[c1]),if_pos c2],_,rfl⟩
  ·have c2:l.length≤4:=by have:=of_decide_eq_false h;omega
   have hrc:(Qaq l==0)=false→VJ op l=Qaq l:=fun h=>by
    unfold VJ
    rw[if_neg (by simp[c1]),if_neg (by omega),if_pos (by simpa using h)]
   simp(disch:=(first | omega | ((repeat (first | rw[Qa.next_push] | rw[Qa.next_set] | rw[Qa.next_up]));done) | ((repeat (first | rw[Qa.next_push] | rw[Qa.next_set] | rw[Qa.next_up]));omega))) only[JD,sxA,sxB,Nat.reduceBEq,Nat.reduceEqDiff,reduceCtorEq,mxD,mxB,Nat.reduceAdd,reduceIte,Nat.reduceLeDiff,splice]
   refine Wq (fun m A' H'=>∃i:Nat,i≤l.length∧m=l.length - i∧H'.Wf∧rcF H op (.slice a0 l.length cap) A' H'∧A' 3=.int .i64 i∧Qaq l=Qaq (l.drop i)) l.length ?_ ?_
   ·refine⟨0,Nat.zero_le _,by omega,hw1,⟨hx1,hb1,?_,g1⟩,?_,rfl⟩
    all_goals simp only[uxA,uxB,Nat.reduceBEq]
    rfl
   ·rintro m A' H' ⟨i,hi,rfl,hw',⟨hx,hb0,r1,g0⟩,r3,he⟩
    simp(disch:=(first | omega | ((repeat (first | rw[Qa.next_push] | rw[Qa.next_set] | rw[Qa.next_up]));done) | ((repeat (first | rw[Qa.next_push] | rw[Qa.next_set] | rw[Qa.next_up]));omega))) only[JC,sxA,sxB,Nat.reduceBEq,Nat.reduceEqDiff,reduceCtorEq,mxD,mxB,Nat.reduceAdd,reduceIte,Nat.reduceLeDiff,splice,g0,r1,r3]
    refine Qe (fun h2=>?_) (fun h2=>?_)
    ·have h2:i<l.length:=by have:=of_decide_eq_true h2;omega
     obtain⟨a,ha⟩:∃a,l[i]? = some a:=⟨_,List.getElem?_eq_getElem h2⟩
     obtain⟨b,rfl,hbl,⟨e,ro,hgb⟩,d1,d3,htk,hle,hk,hn,ei⟩:=atI hv hw hx hl ha
     rw[Qgx l i a ha]at he
     simp(disch:=(first | omega | ((repeat (first | rw[Qa.next_push] | rw[Qa.next_set] | rw[Qa.next_up]));done) | ((repeat (first | rw[Qa.next_push] | rw[Qa.next_set] | rw[Qa.next_up]));omega))) only[JB,sxA,sxB,Nat.reduceBEq,Nat.reduceEqDiff,reduceCtorEq,mxD,mxB,Nat.reduceAdd,reduceIte,Nat.reduceLeDiff,splice,g0,r1,r3,d1,d3,hgb,htk,hle]
     refine(ZK a _).thenW ?_
     rintro _ _ hn2 hw2 ⟨rfl,k,rfl⟩
     have hbk:H.next<k:=Nat.lt_of_lt_of_le hb0 hn2
     simp(disch:=(first | omega | ((repeat (first | rw[Qa.next_push] | rw[Qa.next_set] | rw[Qa.next_up]));done) | ((repeat (first | rw[Qa.next_push] | rw[Qa.next_set] | rw[Qa.next_up]));omega))) only[sxA,sxB,Nat.reduceBEq,Nat.reduceEqDiff,reduceCtorEq,mxD,mxB,Nat.reduceAdd,reduceIte,Nat.reduceLeDiff,splice,r3]
     refine Qe (fun h4=>?_) (fun h4=>?_)
     ·have h4:(Wu a==0)=false:=by simpa using h4
      rw[h4]at he
      have he:Qaq l=Wu a:=by simpa using he
      simp(disch:=(first | omega | ((repeat (first | rw[Qa.next_push] | rw[Qa.next_set] | rw[Qa.next_up]));done) | ((repeat (first | rw[Qa.next_push] | rw[Qa.next_set] | rw[Qa.next_up]));omega))) only[sxA,sxB,Nat.reduceBEq,Nat.reduceEqDiff,reduceCtorEq,mxD,mxB,Nat.reduceAdd,reduceIte,Nat.reduceLeDiff,splice,Wk]
      exact .ext hw (hx.up hn2) ⟨by rw[hrc (by rw[he];exact h4),he],_,rfl⟩
     ·have h4:(Wu a==0)=true:=by simpa using h4
      rw[h4]at he
      simp(disch:=(first | omega | ((repeat (first | rw[Qa.next_push] | rw[Qa.next_set] | rw[Qa.next_up]));done) | ((repeat (first | rw[Qa.next_push] | rw[Qa.next_set] | rw[Qa.next_up]));omega))) only[sxA,sxB,Nat.reduceBEq,Nat.reduceEqDiff,reduceCtorEq,mxD,mxB,Nat.reduceAdd,reduceIte,Nat.reduceLeDiff,splice,r3,ei]
      refine⟨l.length - (i+1),by omega,i+1,by omega,rfl,hw2,⟨hx.up hn2,hbk,?_,g0⟩,?_,by simpa using he⟩
      all_goals simp only[uxA,uxB,Nat.reduceBEq,r1]
    ·have h2:i=l.length:=by have:=of_decide_eq_false h2;omega
     subst h2
     rw[List.drop_length]at he
     simp(disch:=(first | omega | ((repeat (first | rw[Qa.next_push] | rw[Qa.next_set] | rw[Qa.next_up]));done) | ((repeat (first | rw[Qa.next_push] | rw[Qa.next_set] | rw[Qa.next_up]));omega))) only[sxA,sxB,Nat.reduceBEq,Nat.reduceEqDiff,reduceCtorEq,mxD,mxB,Nat.reduceAdd,reduceIte,Nat.reduceLeDiff,splice]
     refine Qr1 hw hv hl hI c1 c2 (by rw[he];rfl) _ _ hw' ⟨hx,hb0,r1,g0⟩
theorem Qni (op:Int) (v:Value) (l:List Ar) (x y:Int) (H:Qa) (hv:QY H v l) (hl:l.length≤1000):Qf prog WH [.agg #[.int .i64 op,v],.int .i64 x,.int .i64 y] H fun u H'=>u=.bool (Vu x y l)∧∃k,H'=H.up k:=by
 refine Qem fun hw=>?_
 obtain⟨a0,cap,rfl⟩:=XG hv
 have hx1:Ext H (H.push (.cells [.int .i64 op,.slice a0 l.length cap] Qb false)):=(Ext.refl H).push _
 cases h2:((l.length:Int)==2) with
 | false=>
  have hn:Vu x y l=false:=by
   match l,h2 with
   | [],_=>rfl
   | [_],_=>rfl
   | [_,_],h=>exact absurd h (by simp)
   | _::_::_::_,_=>rfl
  rw[hn]
  simp(disch:=(first | omega | ((repeat (first | rw[Qa.next_push] | rw[Qa.next_set] | rw[Qa.next_up]));done) | ((repeat (first | rw[Qa.next_push] | rw[Qa.next_set] | rw[Qa.next_up]));omega))) only[Jn,sxA,sxB,Nat.reduceBEq,Nat.reduceEqDiff,reduceCtorEq,mxD,mxB,Nat.reduceAdd,reduceIte,Nat.reduceLeDiff,splice,h2,Z1]
  exact .ext hw hx1 ⟨rfl,_,rfl⟩
 | true=>
  have hl2:l.length=2:=by have:=beq_iff_eq.1 h2;omega
  obtain⟨p,q,rfl⟩:=QlV hl2
  obtain⟨b,rfl,hbl,⟨e,ro,hgb⟩,d1,d3,htk,hle,hk,hn,ei⟩:=atI hv hw hx1 hl (i:=0) (a:=p) rfl
  obtain⟨b',hbb,hbl',⟨e',ro',hgb'⟩,d1',d3',htk',hle',hk',hn',ei'⟩:=atI hv hw hx1 hl (i:=1) (a:=q) rfl
  cases hbb
  have c0:(0:Int)≤0∧(0:Int)<(([p,q]:List Ar).length:Int):=by simp
  have c1:(0:Int)≤1∧(1:Int)<(([p,q]:List Ar).length:Int):=by simp
  have z0:(0:Int).toNat=0:=rfl
  have z1:(1:Int).toNat=1:=rfl
  simp only[Nat.zero_mul,Nat.one_mul]at hk hk'
  have hA:Vu x y [p,q]=((p.k==x)&&(q.k==y)):=rfl
  rw[hA]
  clear hA
  generalize hH1:H.push _=H1 at *
  have g0:H1.get H.next=some (.cells [.int .i64 op,.slice (some ⟨b,0,none⟩) ([p,q]:List Ar).length cap] Qb false):=by rw[← hH1,Qa.get_push,if_pos rfl]
  generalize ([p,q]:List Ar).length=len at *
  simp(disch:=(first | omega | ((repeat (first | rw[Qa.next_push] | rw[Qa.next_set] | rw[Qa.next_up]));done) | ((repeat (first | rw[Qa.next_push] | rw[Qa.next_set] | rw[Qa.next_up]));omega))) only[Jn,sxA,sxB,Nat.reduceBEq,Nat.reduceEqDiff,reduceCtorEq,mxD,mxB,Nat.reduceAdd,reduceIte,Nat.reduceLeDiff,splice,hH1,h2,g0,c0,c1,z0,z1,hgb,hk]
  cases hp:p.k==x with
  | false=>
   simp(disch:=(first | omega | ((repeat (first | rw[Qa.next_push] | rw[Qa.next_set] | rw[Qa.next_up]));done) | ((repeat (first | rw[Qa.next_push] | rw[Qa.next_set] | rw[Qa.next_up]));omega))) only[sxA,sxB,Nat.reduceBEq,Nat.reduceEqDiff,reduceCtorEq,mxD,mxB,Nat.reduceAdd,reduceIte,Nat.reduceLeDiff,splice,hp,Z1,Bool.false_and]
   exact .ext hw hx1 ⟨rfl,_,rfl⟩
  | true=>
   simp(disch:=(first | omega | ((repeat (first | rw[Qa.next_push] | rw[Qa.next_set] | rw[Qa.next_up]));done) | ((repeat (first | rw[Qa.next_push] | rw[Qa.next_set] | rw[Qa.next_up]));omega))) only[sxA,sxB,Nat.reduceBEq,Nat.reduceEqDiff,reduceCtorEq,mxD,mxB,Nat.reduceAdd,reduceIte,Nat.reduceLeDiff,splice,hp,g0,c0,c1,z0,z1,hgb,hk',Z1,Bool.true_and]
   exact .ext hw hx1 ⟨rfl,_,rfl⟩
theorem Qf6 (op:Int) (v:Value) (p q:Ar) (H:Qa) (hv:QY H v [p,q]):Qf prog WK [.agg #[.int .i64 op,v]] H fun u H'=>∃v',u=.agg #[.int .i64 op,v']∧QY H' v' [q,p]∧Ext H H'∧∀id,JF v' id→H.next≤id:=by
 refine Qdd fun hw=>?_
 obtain⟨a0,cap,rfl⟩:=XG hv
 have hx1:Ext H ((H.push (.cells [.int .i64 op,.slice a0 ([p,q]:List Ar).length cap] Qb false)).push (.cells [.int .i64 0,.slice none 0 0] Qb false)):=((Ext.refl H).push _).push _
 obtain⟨b,rfl,hbl,⟨e,ro,hgb⟩,d1,d3,htk,hle,hk,hn,ei⟩:=atI hv hw hx1 (by simp) (i:=0) (a:=p) rfl
 obtain⟨b',hbb,hbl',⟨e',ro',hgb'⟩,d1',d3',htk',hle',hk',hn',ei'⟩:=atI hv hw hx1 (by simp) (i:=1) (a:=q) rfl
 cases hbb
 have c0:(0:Int)≤0∧(0:Int)<(([p,q]:List Ar).length:Int):=by simp
 have c1:(0:Int)≤1∧(1:Int)<(([p,q]:List Ar).length:Int):=by simp
 have z0:(0:Int).toNat=0:=rfl
 have z1:(1:Int).toNat=1:=rfl
 simp only[Nat.zero_mul,Nat.one_mul,Nat.zero_add]at htk htk' hle hle'
 generalize hH1:(H.push _).push _=H1 at *
 have hn1:H1.next=H.next+2:=by rw[← hH1];rfl
 have g0:H1.get H.next=some (.cells [.int .i64 op,.slice (some ⟨b,0,none⟩) ([p,q]:List Ar).length cap] Qb false):=by rw[← hH1,Qa.get_push,if_neg (by rw[Qa.next_push];omega),Qa.get_push,if_pos rfl]
 have g1:H1.get (H.next+1)=some (.cells [.int .i64 0,.slice none 0 0] Qb false):=by rw[← hH1,Qa.get_push,if_pos (by rw[Qa.next_push])]
 generalize ([p,q]:List Ar).length=len at *
 obtain⟨C,hC⟩:∃C,Qh [p,q]=C:=⟨_,rfl⟩
 rw[hC]at hgb htk htk' hle hle'
 rw[List.drop_zero]at htk
 have hcc:Qh [q,p]=q.cells++p.cells:=by simp[Qh]
 have hxe:Ext H H1:=hx1
 unfold QY
 rw[hcc]
 clear hcc hgb' hk hk' hn hn' hv hC hx1
 obtain⟨pk,⟨prc,prn⟩,⟨⟨pbc,pbn⟩,⟨pic,pin⟩,psc,pd,psz⟩,pn⟩:=p
 obtain⟨qk,⟨qrc,qrn⟩,⟨⟨qbc,qbn⟩,⟨qic,qin⟩,qsc,qd,qsz⟩,qn⟩:=q
 simp only[Ar.cells,List.cons_append,List.nil_append]at htk htk' ⊢
 simp(disch:=(first | omega | ((repeat (first | rw[Qa.next_push] | rw[Qa.next_set] | rw[Qa.next_up]));done) | ((repeat (first | rw[Qa.next_push] | rw[Qa.next_set] | rw[Qa.next_up]));omega))) only[GJ,sxA,sxB,Nat.reduceBEq,Nat.reduceEqDiff,reduceCtorEq,mxD,mxB,Nat.reduceAdd,reduceIte,Nat.reduceLeDiff,splice,hH1,g0,g1,c0,c1,z0,z1,hgb,htk,htk',hle,hle',Nat.zero_add]
 simp(disch:=(first | omega | ((repeat (first | rw[Qa.next_push] | rw[Qa.next_set] | rw[Qa.next_up]));done) | ((repeat (first | rw[Qa.next_push] | rw[Qa.next_set] | rw[Qa.next_up]));omega))) only[sxA,sxB,Nat.reduceBEq,Nat.reduceEqDiff,reduceCtorEq,mxD,mxB,Nat.reduceAdd,reduceIte,Nat.reduceLeDiff,splice,List.drop_succ_cons,List.take_succ_cons,List.take_zero,List.nil_append,List.cons_append,Qch]
 refine .mk (by simp only[Qa.next_set,Qa.next_push];omega) ⟨_,rfl,⟨_,_,rfl,fun _=>⟨H1.next,Qc,false,rfl,?_⟩⟩,(hxe.push _).set (by omega) _,fun id ⟨_,_,_,h⟩=>by cases h;omega⟩
 rw[Qa.get_set,if_neg (by omega),Qa.get_push,if_pos rfl]
end Go.Proofs.YtdjkkoacinpdeaaGreatDoor.code
