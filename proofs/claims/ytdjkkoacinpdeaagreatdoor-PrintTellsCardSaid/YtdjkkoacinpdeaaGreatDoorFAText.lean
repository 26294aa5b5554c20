/- print.Text. -/
import Derived.Test.YtdjkkoacinpdeaaGreatDoorLibF
import Derived.Test.YtdjkkoacinpdeaaGreatDoorE2Name
import Derived.Test.YtdjkkoacinpdeaaGreatDoorJ4Canon
set_option linter.unusedVariables false
set_option linter.unusedSimpArgs false
set_option maxRecDepth 100000
set_option maxHeartbeats 4000000
namespace Go.Proofs.YtdjkkoacinpdeaaGreatDoor.code
open Go.Ab
def Qjm (i:Nat):List UInt8:=if i=0 then[32] else[44,32]
def JS (next:Int) (l:List Ar):List UInt8:=(l.zipIdx.map fun p=>Qjm p.2++QiL next p.1).flatten
theorem Qnd (next:Int) (l:List Ar) (a:Ar):JS next (l++[a])=JS next l++(Qjm l.length++QiL next a):=by
 unfold JS
 rw[List.zipIdx_append]
 simp
theorem Qfh {next:Int} {l:List Ar} {i:Nat} {a:Ar} (h:l[i]? = some a):JS next (l.take (i+1))=JS next (l.take i)++(Qjm i++QiL next a):=by
 have hi:=(List.getElem?_eq_some_iff.1 h).1
 have:l.take (i+1)=l.take i++[a]:=by rw[List.take_add_one,h];rfl
 rw[this,Qnd,List.length_take,Nat.min_eq_left (by omega)]
theorem Qgz {next:Int} {l:List Ar} (h:∀a∈l,AOk a):∀i,(JS next (l.take i)).length≤200 * i
 | 0=>by simp[JS]
 | i+1=>by
  have ih:=Qgz (next:=next) h i
  cases hi:l[i]? with
  | none=>
   have hle:l.length≤i:=List.getElem?_eq_none_iff.1 hi
   rw[List.take_of_length_le (by omega),← List.take_of_length_le hle];omega
  | some a=>
   rw[Qfh hi,List.length_append,List.length_append]
   have h1:=QiM (next:=next) (h a (List.mem_of_getElem? hi))
   have h2:(Qjm i).length≤2:=by unfold Qjm;split<;>simp
   omega
def Qf2 (n:Int):List UInt8:=if(n==1)=true then[32,115,104,111,114,116] else if(n==2)=true then[32,110,101,97,114] else if(n==3)=true then[32,115,116,114,105,99,116] else[]
def Qhe (op:Int) (l:List Ar) (hint next:Int):List UInt8×Int:=
 if((Wy op l).2.2==0)=true then(if 0≤hint∧hint≤3 then(nmF (Wy op l).1++Qf2 hint++JS next (Wy op l).2.1,0) else([],2)) else([],(Wy op l).2.2)
theorem QlX:(nmL.all fun w=>decide (1≤w.length)&&decide (w.length≤100))=true:=by decide +kernel
theorem QnZ (op:Int):(nmF op).length≤100:=by
 unfold nmF
 split
 ·rw[List.getD_eq_getElem?_getD]
  cases h:nmL[(op - 1).toNat]? with
  | none=>simp
  | some w=>
   have:=List.all_eq_true.1 QlX w (List.mem_of_getElem? h)
   simp at this
   simp
   omega
 ·simp
theorem Qtj {op:Int} (h:WI op=true):1≤(nmF op).length:=by
 have h':=h
 unfold WI at h'
 simp only[Bool.and_eq_true,decide_eq_true_eq]at h'
 unfold nmF
 rw[h,if_pos rfl,List.getD_eq_getElem?_getD]
 have hl:=QkU
 have:(op - 1).toNat<nmL.length:=by omega
 rw[List.getElem?_eq_getElem this]
 have:=List.all_eq_true.1 QlX _ (List.getElem_mem this)
 simp at this
 simp
 omega
section
variable {T:Qa→Prop} (hT:QoV T) {H0 H:Qa} (hw0:H0.Wf) (hT0:T H0) {D:Nat} {w:List UInt8} {v:Value}
abbrev KT (H:Qa) (r:List UInt8×Int):Env→Qa→Prop:=Rt prog Qkz H fun u H'=>u=.tuple #[.string (mkS r.1),.int .i64 r.2]∧Ext H H'
include hT hT0 hw0 in
theorem QrY (hx0:Ext H H0) {I:Nat} {op next:Int} {va:Value} {l:List Ar} (hI:H0.get I=some (.cells [.int .i64 op,va] Qb false)) (hv:QY H0 va l) (hl:l.length≤5) (hok:∀a∈l,AOk a)
  {p:Value} {H':Qa} {A:Env} (hb:BAt H0 H' D w p v) (hw:1≤w.length∧w.length≤1000) (r9:A 9=.pointer (some ⟨D,0,none⟩)) (r3:A 3=.pointer (some ⟨I,0,none⟩)) (r2:A 2=.int .i64 next) (e:Nat→Env→Qa→Prop):
  Qj prog JV ⟨KT H (w++JS next l,0),e⟩ (KT H (w++JS next l,0)) A H':=by
 obtain⟨a0,cap,rfl,h1⟩:=hv
 have hgI:H'.get I=some (.cells [.int .i64 op,.slice a0 l.length cap] Qb false):=by rw[hb.ext.get I (hw0.lt hI)];exact hI
 obtain⟨r,er⟩:∃r,r=(w++JS next l,(0:Int)):=⟨_,rfl⟩
 rw[← er]
 simp only[JV,sxA,sxB,Nat.reduceBEq,Nat.reduceEqDiff,reduceCtorEq,mxA,mxB,Nat.reduceAdd,reduceIte,Nat.reduceLeDiff,splice,r3,hgI,Kh]
 refine Wq (fun m A' H2=>∃ (i:Nat) (p' v':Value),i≤l.length∧m=l.length - i∧BAt H0 H2 D (w++JS next (l.take i)) p' v'∧A' 9=.pointer (some ⟨D,0,none⟩)∧A' 2=.int .i64 next∧A' 47=.slice a0 l.length cap∧A' 48=.int .i64 l.length∧A' 49=.int .i64 i) l.length ?_ ?_
 ·refine⟨0,p,v,Nat.zero_le _,by omega,by simpa[JS] using hb,?_,?_,?_,?_,?_⟩
  all_goals simp only[uxA,uxB,Nat.reduceBEq,r9,r2]
  all_goals rfl
 ·rintro m A' H2 ⟨i,p',v',hi,rfl,hb',q9,q2,q47,q48,q49⟩
  have hal:=Qgz (next:=next) hok i
  simp only[QcF,sxA,sxB,Nat.reduceBEq,Nat.reduceEqDiff,reduceCtorEq,mxA,mxB,Nat.reduceAdd,reduceIte,Nat.reduceLeDiff,splice,q48,q49]
  refine Qe (fun h2=>?_) (fun h2=>?_)
  ·have h2:i<l.length:=by have:=of_decide_eq_true h2;omega
   obtain⟨a,ha⟩:∃a,l[i]? = some a:=⟨_,List.getElem?_eq_getElem h2⟩
   have hoka:=hok a (List.mem_of_getElem? ha)
   obtain⟨b,e,ro,rfl,hgb0⟩:=h1 (by omega)
   have hgb:H2.get b=some (.cells (Qh l) e ro):=by rw[hb'.ext.get b (hw0.lt hgb0)];exact hgb0
   have htk:=Y6 l i a ha
   have hle:i * 11+11≤(Qh l).length:=by rw[QV];omega
   have d1:(0:Int)≤i∧(i:Int)<l.length:=by omega
   have d3:(i:Int).toNat=i:=by omega
   have ei:IntKind.i64.wrap ((i:Int)+1)=((i+1:Nat):Int):=by rw[w64 (by unfold I64;omega)];omega
   have hall:(a.cells.all fun x=>x.oneCell')=true:=rfl
   simp only[QcE,sxA,sxB,Nat.reduceBEq,Nat.reduceEqDiff,reduceCtorEq,mxA,mxB,Nat.reduceAdd,reduceIte,Nat.reduceLeDiff,splice,q9,q2,q47,q49,d1,d3,hgb,htk,cgA,We]
   refine⟨hle,hall,by omega,?_⟩
   generalize hH3:(H2.push _).set H2.next _=H3
   have hx3:Ext H2 H3:=by rw[← hH3];exact((Ext.refl H2).push _).set (Nat.le_refl _) _
   have hg3:H3.get H2.next=some (.cells a.cells Qc false):=by rw[← hH3,Qa.get_set,if_pos rfl]
   have hw3:H3.Wf:=by rw[← hH3];exact(hb'.wf.push _).set (b0:=.cells [.int .i64 0,.int .i64 0,.int .i64 0,.int .i64 0,.int .i64 0,.int .i64 0,.int .i64 0,.int .i64 0,.int .i64 0,.int .i64 0,.int .i64 0] Qc false) (by rw[Qa.get_push,if_pos rfl]) _
   clear hH3
   have hb3:=hb'.go hx3 hw3
   have hD2:=hb'.wf.lt hb'.get
   have hlt3:=hw3.lt hg3
   refine(Qqo hb3 ((i:Int)==0) [32] [44,32] (by simp only[List.length_append,List.length_cons,List.length_nil];omega)).thenW ?_
   rintro _ H4 hn4 hw4 ⟨rfl,p4,v4,hb4,hst4⟩
   have hg4:H4.get H2.next=some (.cells a.cells Qc false):=by
    rw[hst4.keep H2.next hlt3 (by omega) (fun hi=>by have:=QkQ hb' hi;omega)]
    exact hg3
   have hsp:(bif ((i:Int)==0) then[32] else[44,32])=Qjm i:=by
    unfold Qjm
    cases i with
    | zero=>rfl
    | succ k=>rfl
   rw[hsp]at hb4
   obtain⟨ac,eac⟩:∃ac,ac=a.cells:=⟨_,rfl⟩
   have hacl:ac.take 11=ac:=by rw[eac];rfl
   rw[← eac]at hg3 hg4
   simp only[sxA,sxB,Nat.reduceBEq,Nat.reduceEqDiff,reduceCtorEq,mxA,mxB,Nat.reduceAdd,reduceIte,Nat.reduceLeDiff,splice,cgA,hg3,hg4,q9,q2,q47,q49,eq_self,true_and,List.drop_zero,hacl]
   have hbl:Qn H4.next 6 (Value.agg ac.toArray)=true:=by rw[eac];simp[Qn,Ab.plain,Ar.cells]
   refine⟨by rw[eac];exact Nat.le_refl _,hbl,?_⟩
   rw[eac]
   have hsl:(Qjm i).length≤2:=by unfold Qjm;split<;>simp
   refine(QiN hT hw0 hT0 hb4 hoka next (by rw[List.length_append,List.length_append];omega)).thenW ?_
   rintro _ H5 hn5 hw5 ⟨rfl,p5,v5,hb5,hst5⟩
   simp only[sxA,sxB,Nat.reduceBEq,Nat.reduceEqDiff,reduceCtorEq,q49,ei]
   refine⟨l.length - (i+1),by omega,i+1,p5,v5,by omega,rfl,?_,?_,?_,?_,?_,?_⟩
   ·rw[Qfh ha,← List.append_assoc,← List.append_assoc];exact hb5
   all_goals simp only[uxA,uxB,Nat.reduceBEq,q9,q2,q47,q48]
  ·have h2:i=l.length:=by have:=of_decide_eq_false h2;omega
   subst h2
   rw[List.take_length]at hb'
   have hg5:=hb'.get
   simp only[sxA,sxB,Nat.reduceBEq,Nat.reduceEqDiff,reduceCtorEq,mxA,mxB,Nat.reduceAdd,reduceIte,Nat.reduceLeDiff,splice,q9,ZV,hg5]
   refine(QjX hb' (by rw[List.length_append];omega) (by rw[List.length_append];rw[List.take_length]at hal;omega)).thenW ?_
   rintro _ H6 hn6 hw6 ⟨rfl,hx6⟩
   subst er
   simp only[sxA,sxB,Nat.reduceBEq,Nat.reduceEqDiff,reduceCtorEq,Qac]
   have hx7:=hx0.trans hx6
   exact .mk hx7.next ⟨rfl,hx7⟩
include hT in
theorem QkY (op:Int) (va:Value) (l:List Ar) (hv:QY H va l) (hl:l.length≤1000) (hI:∀a∈l,I64 a.n) (hint next:Int) (hTH:T H):Qf prog Qb1 [.agg #[.int .i64 op,va],.int .i64 hint,.int .i64 next] H fun u H'=>u=.tuple #[.string (mkS (Qhe op l hint next).1),.int .i64 (Qhe op l hint next).2]∧Ext H H':=by
 refine Qi5 fun hw=>?_
 obtain⟨r,er⟩:∃r,r=Qhe op l hint next:=⟨_,rfl⟩
 rw[← er]
 unfold Qhe at er
 have hx1:=(Ext.refl H).push (.cells [.int .i64 op,va] Qb false)
 have hw1:=hw.push (.cells [.int .i64 op,va] Qb false)
 have hg1:(H.push (.cells [.int .i64 op,va] Qb false)).get H.next=some (.cells [.int .i64 op,va] Qb false):=by rw[Qa.get_push,if_pos rfl]
 have hv1:QY (H.push (.cells [.int .i64 op,va] Qb false)) va l:=hv.ext hw hx1
 have hio:=@QlS op l hI
 obtain⟨c0,cap0,rfl⟩:=XG hv
 simp only[QeA,sxA,sxB,Nat.reduceBEq,Nat.reduceEqDiff,reduceCtorEq,mxA,mxB,Nat.reduceAdd,reduceIte,Nat.reduceLeDiff,splice]
 generalize H.push _=H1 at *
 refine(QkX op l H1 _ hv1 hl hI).thenW ?_
 rintro _ H2 hn2 hw2 ⟨hx2,v',rfl,hv2,hfr⟩
 have hg2:H2.get H.next=some (.cells [.int .i64 op,.slice c0 l.length cap0] Qb false):=by rw[hx2.get _ (hw1.lt hg1)];exact hg1
 have hx3:=hx1.trans hx2
 generalize Wy op l=c at *
 obtain⟨cop,cl,ce⟩:=c
 obtain⟨c2,cap2,rfl⟩:=XG hv2
 simp only at er hio
 have hx4:∀c,Ext H (H2.set H.next c):=fun c=>hx3.set (Nat.le_refl _) c
 cases h:ce==0 with
 | false=>
  rw[h,if_neg (by simp)]at er
  subst er
  simp only[sxA,sxB,Nat.reduceBEq,Nat.reduceEqDiff,reduceCtorEq,mxA,mxB,Nat.reduceAdd,reduceIte,Nat.reduceLeDiff,splice,hg2,h,Bool.not_false,Qac]
  exact .mk (hx4 _).next ⟨rfl,hx4 _⟩
 | true=>
  have he:ce=0:=by simpa using h
  obtain⟨rfl,hval,hl5,hok⟩:=hio he
  rw[h,if_pos rfl]at er
  have hw4:=fun c=>hw2.set hg2 c
  have hlt2:¬H.next=H2.next:=by have:=hw2.lt hg2;omega
  simp only[he,sxA,sxB,Nat.reduceBEq,Nat.reduceEqDiff,reduceCtorEq,mxA,mxB,Nat.reduceAdd,reduceIte,Nat.reduceLeDiff,splice,hg2,hlt2,if_false,beq_self_eq_true,Bool.not_true,QcJ]
  have hx5:=hx4 (.cells [.int .i64 cop,.slice c2 cl.length cap2] Qb false)
  have hw5:=hw4 (.cells [.int .i64 cop,.slice c2 cl.length cap2] Qb false)
  have hg5:(H2.set H.next (.cells [.int .i64 cop,.slice c2 cl.length cap2] Qb false)).get H.next=some (.cells [.int .i64 cop,.slice c2 cl.length cap2] Qb false):=by rw[Qa.get_set,if_pos rfl]
  have hn5:(H2.set H.next (.cells [.int .i64 cop,.slice c2 cl.length cap2] Qb false)).next=H2.next:=Qa.next_set ..
  have hv5:QY (H2.set H.next (.cells [.int .i64 cop,.slice c2 cl.length cap2] Qb false)) (.slice c2 cl.length cap2) cl:=by
   obtain⟨a9,c9,e9,h9⟩:=hv2
   refine⟨a9,c9,e9,fun hp=>?_⟩
   obtain⟨b,e,ro,e8,h8⟩:=h9 hp
   refine⟨b,e,ro,e8,?_⟩
   have hb:H1.next≤b:=by
    subst e8
    exact hfr _ _ _ e9
   have:=hw1.lt hg1
   rw[Qa.get_set,if_neg (by omega)]
   exact h8
  generalize H2.set H.next _=H4 at *
  have hb:=QnY H4 hw5
  rw[hn5]at hb
  have hT4:T H4:=hT.q.ext H H4 hw hTH hx5
  have hnl:=QnZ cop
  have hnn:=Qtj hval
  have hend:∀ (w:List UInt8) (A:Env) (H':Qa) (p' v':Value),0≤hint∧hint≤3→w=nmF cop++Qf2 hint→BAt H4 H' H2.next w p' v'→A 9=.pointer (some ⟨H2.next,0,none⟩)→A 3=.pointer (some ⟨H.next,0,none⟩)→A 2=.int .i64 next→Qj prog JV ⟨KT H r,Y8⟩ (KT H r) A H':=by
   intro w A H' p' v' hh ew hb' r9 r3 r2
   rw[if_pos hh]at er
   subst er
   rw[← ew]
   have hhl:(Qf2 hint).length≤7:=by unfold Qf2;repeat' (split<;>try decide)
   exact QrY hT hw5 hT4 hx5 hg5 hv5 hl5 hok hb' ⟨by rw[ew,List.length_append];omega,by rw[ew,List.length_append];omega⟩ r9 r3 r2 Y8
  refine(QlU cop _).thenW ?_
  rintro _ H6 hn6 hw6 ⟨rfl,hx6⟩
  have hb6:=hb.go hx6 hw6
  simp only[sxA,sxB,Nat.reduceBEq,Nat.reduceEqDiff,reduceCtorEq,mxA,mxB,Nat.reduceAdd,reduceIte,Nat.reduceLeDiff,splice,syA]
  refine(Kb hb6 [nmF cop] 1 rfl (by rw[GS];simp;omega) (by simp)).thenW ?_
  rintro _ H7 hn7 hw7 ⟨rfl,p7,v7,hb7,hst7⟩
  rw[GS,List.nil_append]at hb7
  simp only[sxA,sxB,Nat.reduceBEq,Nat.reduceEqDiff,reduceCtorEq]
  refine Qe (fun q0=>?_) (fun q0=>?_)
  ·have q0':hint=0:=by simpa using q0
   simp only[sxA,sxB,Nat.reduceBEq,Nat.reduceEqDiff,reduceCtorEq]
   refine hend (nmF cop) _ _ p7 v7 (by omega) (by rw[q0'];simp[Qf2]) hb7 ?_ ?_ ?_
   all_goals simp only[uxA,uxB,Nat.reduceBEq]
  ·simp only[QcI,sxA,sxB,Nat.reduceBEq,Nat.reduceEqDiff,reduceCtorEq,mxA,mxB,Nat.reduceAdd,reduceIte,Nat.reduceLeDiff,splice,syA]
   refine Qe (fun q1=>?_) (fun q1=>?_)
   ·have q':hint=1:=by simpa using q1
    simp only[sxA,sxB,Nat.reduceBEq,Nat.reduceEqDiff,reduceCtorEq,mxA,mxB,Nat.reduceAdd,reduceIte,Nat.reduceLeDiff,splice,syA]
    refine(Kb hb7 [[32,115,104,111,114,116]] 1 rfl (by rw[GS];simp only[List.length_cons,List.length_nil];omega) (by simp)).thenW ?_
    rintro _ H8 hn8 hw8 ⟨rfl,p8,v8,hb8,hst8⟩
    rw[GS]at hb8
    simp only[sxA,sxB,Nat.reduceBEq,Nat.reduceEqDiff,reduceCtorEq]
    refine hend _ _ _ p8 v8 (by omega) (by rw[q'];rfl) hb8 ?_ ?_ ?_
    all_goals simp only[uxA,uxB,Nat.reduceBEq]
   ·simp only[QcH,sxA,sxB,Nat.reduceBEq,Nat.reduceEqDiff,reduceCtorEq,mxA,mxB,Nat.reduceAdd,reduceIte,Nat.reduceLeDiff,splice,syA]
    refine Qe (fun q2=>?_) (fun q2=>?_)
    ·have q':hint=2:=by simpa using q2
     simp only[sxA,sxB,Nat.reduceBEq,Nat.reduceEqDiff,reduceCtorEq,mxA,mxB,Nat.reduceAdd,reduceIte,Nat.reduceLeDiff,splice,syA]
     refine(Kb hb7 [[32,110,101,97,114]] 1 rfl (by rw[GS];simp only[List.length_cons,List.length_nil];omega) (by simp)).thenW ?_
     rintro _ H8 hn8 hw8 ⟨rfl,p8,v8,hb8,hst8⟩
     rw[GS]at hb8
     simp only[sxA,sxB,Nat.reduceBEq,Nat.reduceEqDiff,reduceCtorEq]
     refine hend _ _ _ p8 v8 (by omega) (by rw[q'];rfl) hb8 ?_ ?_ ?_
     all_goals simp only[uxA,uxB,Nat.reduceBEq]
    ·simp only[QcG,sxA,sxB,Nat.reduceBEq,Nat.reduceEqDiff,reduceCtorEq,mxA,mxB,Nat.reduceAdd,reduceIte,Nat.reduceLeDiff,splice,syA]
     refine Qe (fun q3=>?_) (fun q3=>?_)
     ·have q':hint=3:=by simpa using q3
      simp only[sxA,sxB,Nat.reduceBEq,Nat.reduceEqDiff,reduceCtorEq,mxA,mxB,Nat.reduceAdd,reduceIte,Nat.reduceLeDiff,splice,syA]
      refine(Kb hb7 [[32,115,116,114,105,99,116]] 1 rfl (by rw[GS];simp only[List.length_cons,List.length_nil];omega) (by simp)).thenW ?_
      rintro _ H8 hn8 hw8 ⟨rfl,p8,v8,hb8,hst8⟩
      rw[GS]at hb8
      simp only[sxA,sxB,Nat.reduceBEq,Nat.reduceEqDiff,reduceCtorEq]
      refine hend _ _ _ p8 v8 (by omega) (by rw[q'];rfl) hb8 ?_ ?_ ?_
      all_goals simp only[uxA,uxB,Nat.reduceBEq]
     ·have hno:¬ (0≤hint∧hint≤3):=by
       simp only[beq_eq_false_iff_ne]at q0 q1 q2 q3
       omega
      rw[if_neg hno]at er
      subst er
      simp only[sxA,sxB,Nat.reduceBEq,Nat.reduceEqDiff,reduceCtorEq,Qac]
      have hx9:=hx5.trans hb7.ext
      exact .mk hx9.next ⟨rfl,hx9⟩
end
end Go.Proofs.YtdjkkoacinpdeaaGreatDoor.code
