/- The document's Text. -/
import Derived.Test.YtdjkkoacinpdeaaGreatDoorFAText
import Derived.Test.YtdjkkoacinpdeaaGreatDoorFBPlace
import Derived.Test.YtdjkkoacinpdeaaGreatDoorE3Names
import Derived.Test.YtdjkkoacinpdeaaGreatDoorF3Canon
set_option linter.unusedVariables false
set_option linter.unusedSimpArgs false
set_option maxRecDepth 100000
set_option maxHeartbeats 4000000
namespace Go.Proofs.YtdjkkoacinpdeaaGreatDoor.code
open Go.Ab
theorem QiP (n:Int) (H:Qa):Qf prog Zj [.int .i64 n] H fun u H'=>u=.string (mkS (Qf2 n))∧H'=H:=by
 refine Qbm fun hw=>?_
 unfold Qf2
 simp only[Ku,Ji,sxA,sxB,Nat.reduceBEq,Nat.reduceEqDiff,reduceCtorEq]
 repeat' (first
  | (refine Qe (fun h=>?_) (fun h=>?_)<;>simp only[sxA,sxB,Nat.reduceBEq,Nat.reduceEqDiff,reduceCtorEq,h,QaV,if_true,if_false,Bool.false_eq_true])
  | fail)
 all_goals exact .mk (Nat.le_refl _) ⟨rfl,rfl⟩
theorem Qnl {m:Mm} (h:QrV m):QaY m=(Qap m,0):=by
 unfold QaY
 rw[h.chk,h.idem];rfl
theorem Ql1 {a:Ar} (ha:AOk a) (next:Int) (H:Qa):Qf prog Jk [.agg a.cells.toArray,.int .i64 next] H fun u H'=>u=.string (mkS (QiL next a))∧Ext H H':=by
 refine QdO fun hw=>?_
 have hx1:=(Ext.refl H).push (.cells a.cells Qc false)
 have hg1:(H.push (.cells a.cells Qc false)).get H.next=some (.cells a.cells Qc false):=by rw[Qa.get_push,if_pos rfl]
 obtain⟨w,ew⟩:∃w,w=QiL next a:=⟨_,rfl⟩
 rw[← ew]
 have hpl:=fun h=>Qnl (ha.m h)
 obtain⟨k,⟨rc,rn⟩,⟨⟨bc,bn⟩,⟨ic,nn⟩,sc,d,sz⟩,n⟩:=a
 simp only[Ar.cells]at hx1 hg1 hpl
 simp only[Ar.cells,Vo,sxA,sxB,Nat.reduceBEq,Nat.reduceEqDiff,reduceCtorEq,mxA,mxB,Nat.reduceAdd,reduceIte,Nat.reduceLeDiff,splice]
 generalize H.push _=H1 at *
 unfold QiL at ew
 have hk:=ha.k
 have hn:=ha.n
 simp only at hk hn
 refine Qe (fun h=>?_) (fun h=>?_)
 ·rw[if_pos h]at ew
  simp only[sxA,sxB,Nat.reduceBEq,Nat.reduceEqDiff,reduceCtorEq,mxA,mxB,Nat.reduceAdd,reduceIte,Nat.reduceLeDiff,splice,hg1]
  have q:=Qcr ⟨rc,rn⟩ H1
  simp only[Rg.cells]at q
  refine q.thenW ?_
  rintro _ _ hn2 hw2 ⟨rfl,k2,rfl⟩
  simp only[Qa.next_up]at hn2
  simp only[sxA,sxB,Nat.reduceBEq,Nat.reduceEqDiff,reduceCtorEq,XX]
  exact .mk (hx1.up hn2).next ⟨by rw[ew],hx1.up hn2⟩
 ·rw[if_neg (by simp[h])]at ew
  simp only[K1,sxA,sxB,Nat.reduceBEq,Nat.reduceEqDiff,reduceCtorEq,mxA,mxB,Nat.reduceAdd,reduceIte,Nat.reduceLeDiff,splice]
  refine Qe (fun h2=>?_) (fun h2=>?_)
  ·rw[if_pos h2]at ew
   simp only[sxA,sxB,Nat.reduceBEq,Nat.reduceEqDiff,reduceCtorEq,mxA,mxB,Nat.reduceAdd,reduceIte,Nat.reduceLeDiff,splice,hg1]
   have q:=QeL ⟨⟨bc,bn⟩,⟨ic,nn⟩,sc,d,sz⟩ H1
   rw[hpl (by simpa using h2)]at q
   simp only[Mm.cells]at q
   refine q.thenW ?_
   rintro _ H2 hn2 hw2 ⟨rfl,hx2⟩
   simp only[sxA,sxB,Nat.reduceBEq,Nat.reduceEqDiff,reduceCtorEq,mxA,mxB,Nat.reduceAdd,reduceIte,Nat.reduceLeDiff,splice,XX]
   exact .mk (hx1.trans hx2).next ⟨by rw[ew],hx1.trans hx2⟩
  ·rw[if_neg (by simp[h2])]at ew
   simp only[KZ,sxA,sxB,Nat.reduceBEq,Nat.reduceEqDiff,reduceCtorEq,mxA,mxB,Nat.reduceAdd,reduceIte,Nat.reduceLeDiff,splice]
   refine Qe (fun h4=>?_) (fun h4=>?_)
   ·have h4':k=4:=by simpa using h4
    rw[if_neg (by simp[h4'])]at ew
    simp only[sxA,sxB,Nat.reduceBEq,Nat.reduceEqDiff,reduceCtorEq,mxA,mxB,Nat.reduceAdd,reduceIte,Nat.reduceLeDiff,splice,hg1]
    refine(QdT _ (Qm8 _) H1).thenW ?_
    rintro _ H2 hn2 hw2 ⟨rfl,rfl⟩
    simp only[sxA,sxB,Nat.reduceBEq,Nat.reduceEqDiff,reduceCtorEq,mxA,mxB,Nat.reduceAdd,reduceIte,Nat.reduceLeDiff,splice,XX]
    exact .mk hx1.next ⟨by rw[ew],hx1⟩
   ·have h3':k=3:=by
     simp only[beq_eq_false_iff_ne]at h h2 h4
     omega
    rw[if_pos (by simp[h3'])]at ew
    simp only[sxA,sxB,Nat.reduceBEq,Nat.reduceEqDiff,reduceCtorEq,mxA,mxB,Nat.reduceAdd,reduceIte,Nat.reduceLeDiff,splice,hg1]
    refine(QdT _ hn H1).thenW ?_
    rintro _ H2 hn2 hw2 ⟨rfl,rfl⟩
    simp only[sxA,sxB,Nat.reduceBEq,Nat.reduceEqDiff,reduceCtorEq,mxA,mxB,Nat.reduceAdd,reduceIte,Nat.reduceLeDiff,splice,XX]
    exact .mk hx1.next ⟨by rw[ew],hx1⟩
section
variable {H H0:Qa}
abbrev KU (H:Qa) (r:List UInt8×Int):Env→Qa→Prop:=Rt prog Vl H fun u H'=>u=.tuple #[.string (mkS r.1),.int .i64 r.2]∧Ext H H'
theorem Qr3 (hw0:H0.Wf) (hx0:Ext H H0) {I:Nat} {op next:Int} {va:Value} {l:List Ar} (hI:H0.get I=some (.cells [.int .i64 op,va] Qb false)) (hv:QY H0 va l) (hl:l.length≤5) (hok:∀a∈l,AOk a)
  {w:List UInt8} {A:Env} (hw:w.length≤1000) (r8:A 8=.pointer (some ⟨I,0,none⟩)) (r10:A 10=.string (mkS w)) (r11:A 11=.int .i64 0) (r2:A 2=.int .i64 next) (e:Nat→Env→Qa→Prop):
  Qj prog (.block 0 (.loop YV)) ⟨KU H (w++JS next l,0),e⟩ (Qj prog (.seq (.ops [Om 53 (t 10),Om 6 (t 53),Om 7 (Ci 0)]) .ret) ⟨KU H (w++JS next l,0),e⟩ (KU H (w++JS next l,0))) A H0:=by
 obtain⟨a0,cap,rfl,h1⟩:=hv
 obtain⟨r,er⟩:∃r,r=(w++JS next l,(0:Int)):=⟨_,rfl⟩
 rw[← er]
 simp only[sxA,sxB,Nat.reduceBEq,Nat.reduceEqDiff,reduceCtorEq,mxA,mxB,Nat.reduceAdd,reduceIte,Nat.reduceLeDiff,splice]
 refine Wq (fun m A' H2=>∃ (i:Nat),i≤l.length∧m=l.length - i∧H2.Wf∧Ext H0 H2∧A' 8=.pointer (some ⟨I,0,none⟩)∧A' 2=.int .i64 next∧A' 10=.string (mkS (w++JS next (l.take i)))∧A' 11=.int .i64 i) l.length ?_ ?_
 ·refine⟨0,Nat.zero_le _,by omega,hw0,.refl _,r8,r2,?_,r11⟩
  rw[r10];simp[JS]
 ·rintro m A' H2 ⟨i,hi,rfl,hw2,hx2,q8,q2,q10,q11⟩
  have hal:=Qgz (next:=next) hok i
  have hgI:H2.get I=some (.cells [.int .i64 op,.slice a0 l.length cap] Qb false):=by rw[hx2.get I (hw0.lt hI)];exact hI
  simp only[YV,sxA,sxB,Nat.reduceBEq,Nat.reduceEqDiff,reduceCtorEq,mxA,mxB,Nat.reduceAdd,reduceIte,Nat.reduceLeDiff,splice,q8,q11,hgI,Kh]
  refine Qe (fun h2=>?_) (fun h2=>?_)
  ·have h2:i<l.length:=by have:=of_decide_eq_true h2;omega
   obtain⟨a,ha⟩:∃a,l[i]? = some a:=⟨_,List.getElem?_eq_getElem h2⟩
   have hoka:=hok a (List.mem_of_getElem? ha)
   obtain⟨b,e,ro,rfl,hgb0⟩:=h1 (by omega)
   have hgb:H2.get b=some (.cells (Qh l) e ro):=by rw[hx2.get b (hw0.lt hgb0)];exact hgb0
   have htk:=Y6 l i a ha
   have hle:i * 11+11≤(Qh l).length:=by rw[QV];omega
   have d1:(0:Int)≤i∧(i:Int)<l.length:=by omega
   have d3:(i:Int).toNat=i:=by omega
   have ei:IntKind.i64.wrap ((i:Int)+1)=((i+1:Nat):Int):=by rw[w64 (by unfold I64;omega)];omega
   have hgl:=QiM (next:=next) hoka
   have hq:=Ql1 hoka next H2
   have htl:=Qfh (next:=next) ha
   unfold Qjm at htl
   have hbl:(w++JS next (l.take i)).length≤3000:=by rw[List.length_append];omega
   obtain⟨z,ez⟩:∃z,z=w++JS next (l.take i):=⟨_,rfl⟩
   rw[← ez]at q10 hbl
   simp only[Kj,sxA,sxB,Nat.reduceBEq,Nat.reduceEqDiff,reduceCtorEq,mxA,mxB,Nat.reduceAdd,reduceIte,Nat.reduceLeDiff,splice,syA,q8,q2,q10,q11]
   refine Qe (fun h3=>?_) (fun h3=>?_)
   ·have h3':¬i=0:=by have:=of_decide_eq_true h3;omega
    rw[if_neg h3']at htl
    simp only[sxA,sxB,Nat.reduceBEq,Nat.reduceEqDiff,reduceCtorEq,mxA,mxB,Nat.reduceAdd,reduceIte,Nat.reduceLeDiff,splice,syA,q8,q2,q10,q11,hgI,d1,d3,hgb,htk]
    refine⟨(by first | omega | (simp only[List.length_append,List.length_cons,List.length_nil];omega)),(by first | omega | (simp only[List.length_append,List.length_cons,List.length_nil];omega)),hle,?_⟩
    refine hq.thenW ?_
    rintro _ H3 hn3 hw3 ⟨rfl,hx3⟩
    simp only[sxA,sxB,Nat.reduceBEq,Nat.reduceEqDiff,reduceCtorEq,mxA,mxB,Nat.reduceAdd,reduceIte,Nat.reduceLeDiff,splice,syA,q8,q2,q10,q11,ei]
    refine⟨(by first | omega | (simp only[List.length_append,List.length_cons,List.length_nil];omega)),l.length - (i+1),by omega,i+1,by omega,rfl,hw3,hx2.trans hx3,?_,?_,?_,?_⟩
    rotate_left 2
    ·rw[htl,ez];simp only[uxA,uxB,Nat.reduceBEq,List.append_assoc,List.cons_append,List.nil_append]
    all_goals simp only[uxA,uxB,Nat.reduceBEq,q8,q2]
   ·have h3':i=0:=by have:=of_decide_eq_false h3;omega
    rw[if_pos h3']at htl
    simp only[sxA,sxB,Nat.reduceBEq,Nat.reduceEqDiff,reduceCtorEq,mxA,mxB,Nat.reduceAdd,reduceIte,Nat.reduceLeDiff,splice,syA,q8,q2,q10,q11,hgI,d1,d3,hgb,htk]
    refine⟨(by first | omega | (simp only[List.length_append,List.length_cons,List.length_nil];omega)),hle,?_⟩
    refine hq.thenW ?_
    rintro _ H3 hn3 hw3 ⟨rfl,hx3⟩
    simp only[sxA,sxB,Nat.reduceBEq,Nat.reduceEqDiff,reduceCtorEq,mxA,mxB,Nat.reduceAdd,reduceIte,Nat.reduceLeDiff,splice,syA,q8,q2,q10,q11,ei]
    refine⟨(by first | omega | (simp only[List.length_append,List.length_cons,List.length_nil];omega)),l.length - (i+1),by omega,i+1,by omega,rfl,hw3,hx2.trans hx3,?_,?_,?_,?_⟩
    rotate_left 2
    ·rw[htl,ez];simp only[uxA,uxB,Nat.reduceBEq,List.append_assoc,List.cons_append,List.nil_append]
    all_goals simp only[uxA,uxB,Nat.reduceBEq,q8,q2]
  ·have h2:i=l.length:=by have:=of_decide_eq_false h2;omega
   subst h2
   rw[List.take_length]at q10
   simp only[sxA,sxB,Nat.reduceBEq,Nat.reduceEqDiff,reduceCtorEq,mxA,mxB,Nat.reduceAdd,reduceIte,Nat.reduceLeDiff,splice,q10,Zm]
   subst er
   exact .mk (hx0.trans hx2).next ⟨rfl,hx0.trans hx2⟩
end
theorem Qk2 (op:Int) (va:Value) (l:List Ar) (H:Qa) (hv:QY H va l) (hl:l.length≤1000) (hI:∀a∈l,I64 a.n) (hint next:Int):Qf prog ZW [.agg #[.int .i64 op,va],.int .i64 hint,.int .i64 next] H fun u H'=>u=.tuple #[.string (mkS (Qhe op l hint next).1),.int .i64 (Qhe op l hint next).2]∧Ext H H':=by
 refine Qc2 fun hw=>?_
 obtain⟨r,er⟩:∃r,r=Qhe op l hint next:=⟨_,rfl⟩
 rw[← er]
 unfold Qhe at er
 have hx1:=(Ext.refl H).push (.cells [.int .i64 op,va] Qb false)
 have hw1:=hw.push (.cells [.int .i64 op,va] Qb false)
 have hg1:(H.push (.cells [.int .i64 op,va] Qb false)).get H.next=some (.cells [.int .i64 op,va] Qb false):=by rw[Qa.get_push,if_pos rfl]
 have hv1:QY (H.push (.cells [.int .i64 op,va] Qb false)) va l:=hv.ext hw hx1
 have hio:=@QlS op l hI
 obtain⟨c0,cap0,rfl⟩:=XG hv
 simp only[GC,sxA,sxB,Nat.reduceBEq,Nat.reduceEqDiff,reduceCtorEq,mxA,mxB,Nat.reduceAdd,reduceIte,Nat.reduceLeDiff,splice]
 generalize H.push _=H1 at *
 refine(Qjp op _ l H1 hv1 hl hI).thenW ?_
 rintro _ H2 hn2 hw2 ⟨hx2,v',rfl,hv2⟩
 have hx3:=hx1.trans hx2
 generalize Wy op l=c at *
 obtain⟨cop,cl,ce⟩:=c
 obtain⟨c2,cap2,rfl⟩:=XG hv2
 simp only at er hio
 simp only[sxA,sxB,Nat.reduceBEq,Nat.reduceEqDiff,reduceCtorEq,mxA,mxB,Nat.reduceAdd,reduceIte,Nat.reduceLeDiff,splice]
 generalize hH3:(H2.push _).set H2.next _=H3
 have hx4:Ext H2 H3:=by rw[← hH3];exact((Ext.refl H2).push _).set (Nat.le_refl _) _
 have hg3:H3.get H2.next=some (.cells [.int .i64 cop,.slice c2 cl.length cap2] Qb false):=by rw[← hH3,Qa.get_set,if_pos rfl]
 have hw3:H3.Wf:=by rw[← hH3];exact(hw2.push _).set (b0:=.cells [.int .i64 0,.slice none 0 0] Qb false) (by rw[Qa.get_push,if_pos rfl]) _
 have hv3:=hv2.ext hw2 hx4
 have hx5:=hx3.trans hx4
 clear hH3
 refine Qe (fun h=>?_) (fun h=>?_)
 ·have hc:(ce==0)=false:=by simpa using h
  rw[hc,if_neg (by simp)]at er
  subst er
  simp only[sxA,sxB,Nat.reduceBEq,Nat.reduceEqDiff,reduceCtorEq,mxA,mxB,Nat.reduceAdd,reduceIte,Nat.reduceLeDiff,splice,Zm]
  exact .mk hx5.next ⟨rfl,hx5⟩
 ·have he:ce=0:=by simpa using h
  obtain⟨rfl,hval,hl5,hok⟩:=hio he
  rw[he,beq_self_eq_true,if_pos rfl]at er
  simp only[Kk,sxA,sxB,Nat.reduceBEq,Nat.reduceEqDiff,reduceCtorEq,mxA,mxB,Nat.reduceAdd,reduceIte,Nat.reduceLeDiff,splice]
  have hbad:¬ (0≤hint∧hint≤3)→∀ (A:Env),A 6=.string (mkS [])→A 7=.int .i64 2→Rt prog Vl H (fun u H'=>u=.tuple #[.string (mkS r.1),.int .i64 r.2]∧Ext H H') A H3:=by
   intro hb A q6 q7
   rw[if_neg hb]at er
   subst er
   simp only[Zm,q6,q7]
   exact .mk hx5.next ⟨rfl,hx5⟩
  have hgood:(0≤hint∧hint≤3)→∀ (A:Env),A 8=.pointer (some ⟨H2.next,0,none⟩)→A 1=.int .i64 hint→A 2=.int .i64 next→Qj prog YW ⟨KU H r,Y8⟩ (KU H r) A H3:=by
   intro hb A q8 q1 q2
   rw[if_pos hb]at er
   have hnl:=QnZ cop
   have hhl:(Qf2 hint).length≤7:=by unfold Qf2;repeat' (split<;>try decide)
   simp only[YW,sxA,sxB,Nat.reduceBEq,Nat.reduceEqDiff,reduceCtorEq,mxA,mxB,Nat.reduceAdd,reduceIte,Nat.reduceLeDiff,splice,q8,hg3]
   refine(Qk0 cop H3).thenW ?_
   rintro _ H4 hn4 hw4 ⟨rfl,hx6⟩
   simp only[sxA,sxB,Nat.reduceBEq,Nat.reduceEqDiff,reduceCtorEq,mxA,mxB,Nat.reduceAdd,reduceIte,Nat.reduceLeDiff,splice,q1]
   refine(QiP hint H4).thenW ?_
   rintro _ H4 _ hw5 ⟨rfl,rfl⟩
   simp only[XF,Wp,WA,XB,QcC,Qkt,QfE,JY,X9,Qgm,Qif,uxA,uxB,Nat.reduceBEq]
   refine⟨(by first | omega | (simp only[List.length_append,List.length_cons,List.length_nil];omega)),?_⟩
   have hg4:H4.get H2.next=some (.cells [.int .i64 cop,.slice c2 cl.length cap2] Qb false):=by rw[hx6.get _ (hw3.lt hg3)];exact hg3
   rw[er]
   refine Qr3 hw5 (hx5.trans hx6) hg4 (hv3.ext hw3 hx6) hl5 hok (by rw[List.length_append];omega) ?_ ?_ ?_ ?_ Y8
   all_goals simp only[uxA,uxB,Nat.reduceBEq,q8,q2]
  cases g:decide (hint<0) with
  | false=>
   have g0:=of_decide_eq_false g
   simp only[sxA,sxB,Nat.reduceBEq,Nat.reduceEqDiff,reduceCtorEq,Bool.not_false]
   refine Qe (fun g2=>?_) (fun g2=>?_)
   ·simp only[sxA,sxB,Nat.reduceBEq,Nat.reduceEqDiff,reduceCtorEq]
    refine hbad (by have:=of_decide_eq_true g2;omega) _ ?_ ?_
    all_goals simp only[uxA,uxB,Nat.reduceBEq]
   ·simp only[sxA,sxB,Nat.reduceBEq,Nat.reduceEqDiff,reduceCtorEq]
    refine hgood ?_ _ ?_ ?_ ?_
    ·have g3:=of_decide_eq_false g2
     omega
    all_goals simp only[uxA,uxB,Nat.reduceBEq]
  | true=>
   simp only[sxA,sxB,Nat.reduceBEq,Nat.reduceEqDiff,reduceCtorEq,Bool.not_true]
   refine hbad (by have:=of_decide_eq_true g;omega) _ ?_ ?_
   all_goals simp only[uxA,uxB,Nat.reduceBEq]
end Go.Proofs.YtdjkkoacinpdeaaGreatDoor.code
