/- The law PrintTells, walked. -/
import Derived.Test.YtdjkkoacinpdeaaGreatDoorFCText
import Derived.Test.YtdjkkoacinpdeaaGreatDoorU1Same
import Derived.Test.YtdjkkoacinpdeaaGreatDoorLibJ
set_option linter.unusedVariables false
set_option linter.unusedSimpArgs false
set_option maxRecDepth 100000
set_option maxHeartbeats 4000000
namespace Go.Proofs.YtdjkkoacinpdeaaGreatDoor.code
open Go.Ab
theorem Qno (op:Int) (v:Value) (l:List Ar) (H:Qa) (hv:QY H v l) (hl:l.length≤1000):Qf prog Zg [.agg #[.int .i64 op,v]] H fun u H'=>∃v',u=.agg #[.int .i64 op,v']∧QY H' v' l∧Ext H H':=by
 refine Qbd fun hw=>?_
 obtain⟨a0,cap,rfl,h1⟩:=hv
 simp(disch:=(first | omega | ((repeat (first | rw[Qa.next_push] | rw[Qa.next_set] | rw[Qa.next_up]));done) | ((repeat (first | rw[Qa.next_push] | rw[Qa.next_set] | rw[Qa.next_up]));omega))) only[Ki,sxA,sxB,Nat.reduceBEq,Nat.reduceEqDiff,reduceCtorEq,mxD,mxB,Nat.reduceAdd,reduceIte,Nat.reduceLeDiff,splice]
 generalize hH1:Qa.push (Qa.push (Qa.push H _) _) _=H1
 have hx1:Ext H H1:=by rw[← hH1];exact(((Ext.refl H).push _).push _).push _
 have hn1:H1.next=H.next+3:=by rw[← hH1];rfl
 have hw1:H1.Wf:=by rw[← hH1];exact((hw.push _).push _).push _
 have g0:H1.get H.next=some (.cells [.int .i64 op,.slice a0 l.length cap] Qb false):=by rw[← hH1,Qa.get_push,if_neg (by simp only[Qa.next_push];omega),Qa.get_push,if_neg (by simp only[Qa.next_push];omega),Qa.get_push,if_pos rfl]
 have g1:H1.get (H.next+1)=some (.cells [.int .i64 0,.slice none 0 0] Qb false):=by rw[← hH1,Qa.get_push,if_neg (by simp only[Qa.next_push];omega),Qa.get_push,if_pos (by simp only[Qa.next_push])]
 have g2:H1.get (H.next+1+1)=some (.cells [] Qc false):=by rw[← hH1,Qa.get_push,if_pos (by simp only[Qa.next_push])]
 clear hH1
 -- what is left once the operands are copied
 have hfin:∀ (sa:Option Addr) (sc:Nat) (H2:Qa) (A:Env),H2.Wf→Ext H1 H2→QY H2 (.slice sa l.length sc) l→(∀id,JF (.slice sa l.length sc) id→H.next+1<id)→A 1=.pointer (some ⟨H.next,0,none⟩)→A 2=.pointer (some ⟨H.next+1,0,none⟩)→
   QgV prog [Ow 7 (.fldA 1 (t 1)),Ov (.st 1 (t 7) (t 6))] (Qj prog (.seq (.ops [Ow 8 (.ld true 2 (t 1)),Ov (.st 2 (t 2) (t 8))]) .ret) ⟨Rt prog KS H fun u H'=>∃v',u=.agg #[.int .i64 op,v']∧QY H' v' l∧Ext H H',Y8⟩ (Rt prog KS H fun u H'=>∃v',u=.agg #[.int .i64 op,v']∧QY H' v' l∧Ext H H')) A (some 6) (.slice sa l.length sc) H2:=by
  intro sa sc H2 A hw2 hx2 hv2 hlo r1 r2
  have k0:H2.get H.next=some (.cells [.int .i64 op,.slice a0 l.length cap] Qb false):=by rw[hx2.get _ (by omega)];exact g0
  have k1:H2.get (H.next+1)=some (.cells [.int .i64 0,.slice none 0 0] Qb false):=by rw[hx2.get _ (by omega)];exact g1
  simp(disch:=(first | omega | ((repeat (first | rw[Qa.next_push] | rw[Qa.next_set] | rw[Qa.next_up]));done) | ((repeat (first | rw[Qa.next_push] | rw[Qa.next_set] | rw[Qa.next_up]));omega))) only[sxA,sxB,Nat.reduceBEq,Nat.reduceEqDiff,reduceCtorEq,mxD,mxB,Nat.reduceAdd,reduceIte,Nat.reduceLeDiff,splice,r1,r2,k0,k1,QaU]
  have hx3:∀b b',Ext H ((H2.set H.next b).set (H.next+1) b'):=fun b b'=>((hx1.trans hx2).set (Nat.le_refl _) _).set (by omega) _
  refine .mk (hx3 _ _).next ⟨_,rfl,?_,hx3 _ _⟩
  obtain⟨a9,c9,e9,h9⟩:=hv2
  refine⟨a9,c9,e9,fun hp=>?_⟩
  obtain⟨b,e,ro,rfl,h8⟩:=h9 hp
  have hb:=hlo b ⟨0,l.length,c9,e9⟩
  exact⟨b,e,ro,rfl,by rw[Qa.get_set,if_neg (by omega),Qa.get_set,if_neg (by omega)];exact h8⟩
 cases l with
 | nil=>
  have hr:∀H1:Qa,Ze Qc 11 88 (.slice (some ⟨H.next+1+1,0,none⟩) 0 0) (.slice a0 0 cap) H1=some (.slice (some ⟨H.next+1+1,0,none⟩) 0 0,H1):=fun H1=>by cases a0<;>simp[Ze,QaN]
  simp only[List.length_nil]at hfin ⊢
  unfold Qhk
  rw[hr,Qx]
  refine hfin _ _ H1 _ hw1 (.refl _) ⟨_,_,rfl,fun h=>absurd h (Nat.lt_irrefl 0)⟩ (fun id ⟨o,n,c,h⟩=>by cases h;omega) ?_ ?_
  all_goals simp only[uxA,uxB,Nat.reduceBEq]
 | cons a l=>
  obtain⟨b,e,ro,rfl,hb⟩:=h1 (by simp)
  have hbn:=hw.lt hb
  have hlen:=QV (a::l)
  have hn:QaN 11 (.slice (some ⟨b,0,none⟩) (l.length+1) cap) H1=some (l.length+1,Qh (a::l)):=by
   rw[Qky (c:=Qh (a::l)) (e:=e) (ro:=ro) (by rw[hx1.get _ hbn];exact hb) (by omega) (by rw[hlen,List.length_cons];omega),List.drop_zero,List.take_of_length_le (by rw[hlen,List.length_cons];exact Nat.le_refl _)]
  rw[List.length_cons]at hl hfin
  refine QjP (c:=[]) (ro:=false) (e':=Qc) hn (Qfd _) (by omega) g2 (by simp) (by omega) (by omega) (by decide) (by omega) ?_
  rw[Nat.zero_add]
  refine hfin _ _ (H1.push _) _ (hw1.push _) ((Ext.refl _).push _) ?_ ?_ ?_ ?_
  ·exact⟨_,_,rfl,fun _=>⟨_,_,_,rfl,by rw[Qa.get_push,if_pos rfl];rfl⟩⟩
  ·rintro id ⟨o,n,c,h⟩
   cases h;omega
  all_goals simp only[uxA,uxB,Nat.reduceBEq]
theorem Qk4 {T:Qa→Prop} (hT:QoV T) (hAw:∀H,T H→Qf prog XR [] H fun u H'=>u=.bool true) (m:Mm) (op:Int) (va:Value) (l:List Ar) (hint next:Int) (H:Qa) (hTH:T H) (hv:QY H va l) (hI:∀a∈l,I64 a.n) (hl:l.length≤9223372036854775807):
  Qf prog XO [.agg m.cells.toArray,.agg #[.int .i64 op,va],.int .i64 hint,.int .i64 next] H fun u H'=>u=.bool true:=by
 refine VZ fun hw=>?_
 obtain⟨a0,cap,rfl⟩:=XG hv
 have qp:=fun H hTH=>Qjj hT (H:=H) m hTH
 have qd:=QeL m
 simp only[Mm.cells]at qp qd
 simp only[Mm.cells,ZP,sxA,sxB,Nat.reduceBEq,Nat.reduceEqDiff,reduceCtorEq,mxA,mxB,Nat.reduceAdd,reduceIte,Nat.reduceLeDiff,splice,Kh]
 generalize hH1:Qa.push (Qa.push H _) _=H1
 have hx1:Ext H H1:=by rw[← hH1];exact((Ext.refl H).push _).push _
 have hn1:H1.next=H.next+2:=by rw[← hH1];rfl
 have hw1:H1.Wf:=by rw[← hH1];exact(hw.push _).push _
 have g0:H1.get H.next=some (.cells m.cells Qg false):=by rw[← hH1,Qa.get_push,if_neg (by simp only[Qa.next_push];omega),Qa.get_push,if_pos rfl];rfl
 have g1:H1.get (H.next+1)=some (.cells [.int .i64 op,.slice a0 l.length cap] Qb false):=by rw[← hH1,Qa.get_push,if_pos (by simp only[Qa.next_push])]
 clear hH1
 simp only[Mm.cells]at g0
 have hT1:T H1:=hT.q.ext H H1 hw hTH hx1
 have hv1:=hv.ext hw hx1
 refine Qe (fun h=>?_) (fun h=>?_)
 ·simp only[sxA,sxB,Nat.reduceBEq,Nat.reduceEqDiff,reduceCtorEq,mxA,mxB,Nat.reduceAdd,reduceIte,Nat.reduceLeDiff,splice]
  refine(hAw H1 hT1).thenW ?_
  rintro _ H2 hn2 hw2 rfl
  simp only[sxA,sxB,Nat.reduceBEq,Nat.reduceEqDiff,reduceCtorEq,Zw]
  exact .mk (by omega) rfl
 ·have hl9:l.length≤9:=by have:=of_decide_eq_false h;omega
  simp only[Y9,sxA,sxB,Nat.reduceBEq,Nat.reduceEqDiff,reduceCtorEq,mxA,mxB,Nat.reduceAdd,reduceIte,Nat.reduceLeDiff,splice,g1]
  refine(Qno op _ l H1 hv1 (by omega)).thenW ?_
  rintro _ H2 hn2 hw2 ⟨v2,rfl,hv2,hx2⟩
  obtain⟨a2,cap2,rfl⟩:=XG hv2
  have k0:H2.get H.next=some (.cells m.cells Qg false):=by rw[hx2.get _ (by omega)];exact g0
  have k1:H2.get (H.next+1)=some (.cells [.int .i64 op,.slice a0 l.length cap] Qb false):=by rw[hx2.get _ (by omega)];exact g1
  have n0:¬H.next=H2.next:=by omega
  have n1:¬H.next+1=H2.next:=by omega
  simp only[Mm.cells]at k0
  simp only[sxA,sxB,Nat.reduceBEq,Nat.reduceEqDiff,reduceCtorEq,mxA,mxB,Nat.reduceAdd,reduceIte,Nat.reduceLeDiff,splice,n0,n1,if_false,k0]
  generalize hH3:Qa.set (Qa.push H2 _) _ _=H3
  have hx3:Ext H2 H3:=by rw[← hH3];exact((Ext.refl H2).push _).set (Nat.le_refl _) _
  have hw3:H3.Wf:=by rw[← hH3];exact(hw2.push _).set (b0:=.cells [.int .i64 0,.slice none 0 0] Qb false) (by rw[Qa.get_push,if_pos rfl]) _
  have j2:H3.get H2.next=some (.cells [.int .i64 op,.slice a2 l.length cap2] Qb false):=by rw[← hH3,Qa.get_set,if_pos rfl]
  have hn3:H2.next<H3.next:=hw3.lt j2
  clear hH3
  have hx13:=hx2.trans hx3
  refine(qp H3 (hT.q.ext H1 H3 hw1 hT1 hx13)).thenW ?_
  rintro _ H4 hn4 hw4 ⟨rfl,hx4⟩
  have hx14:=hx13.trans hx4
  have k0:H4.get H.next=some (.cells m.cells Qg false):=by rw[hx14.get _ (by omega)];exact g0
  simp only[Mm.cells]at k0
  simp only[sxA,sxB,Nat.reduceBEq,Nat.reduceEqDiff,reduceCtorEq,mxA,mxB,Nat.reduceAdd,reduceIte,Nat.reduceLeDiff,splice,k0]
  refine(qd H4).thenW ?_
  rintro _ H5 hn5 hw5 ⟨rfl,hx5⟩
  have hx35:=hx4.trans hx5
  have hx15:=hx14.trans hx5
  have k2:H5.get H2.next=some (.cells [.int .i64 op,.slice a2 l.length cap2] Qb false):=by rw[hx35.get _ hn3];exact j2
  simp only[sxA,sxB,Nat.reduceBEq,Nat.reduceEqDiff,reduceCtorEq,mxA,mxB,Nat.reduceAdd,reduceIte,Nat.reduceLeDiff,splice,k2]
  have hv5:=(hv2.ext hw2 hx3).ext hw3 hx35
  refine(QkY hT op _ l hv5 (by omega) hI hint next (hT.q.ext H1 H5 hw1 hT1 hx15)).thenW ?_
  rintro _ H6 hn6 hw6 ⟨rfl,hx6⟩
  have hx16:=hx15.trans hx6
  have k1:H6.get (H.next+1)=some (.cells [.int .i64 op,.slice a0 l.length cap] Qb false):=by rw[hx16.get _ (by omega)];exact g1
  simp only[sxA,sxB,Nat.reduceBEq,Nat.reduceEqDiff,reduceCtorEq,mxA,mxB,Nat.reduceAdd,reduceIte,Nat.reduceLeDiff,splice,k1]
  refine(Qk2 op _ l H6 (hv1.ext hw1 hx16) (by omega) hI hint next).thenW ?_
  rintro _ H7 hn7 hw7 ⟨rfl,hx7⟩
  have hx17:=hx16.trans hx7
  have hx37:=(hx35.trans hx6).trans hx7
  have k1:H7.get (H.next+1)=some (.cells [.int .i64 op,.slice a0 l.length cap] Qb false):=by rw[hx17.get _ (by omega)];exact g1
  have k2:H7.get H2.next=some (.cells [.int .i64 op,.slice a2 l.length cap2] Qb false):=by rw[hx37.get _ hn3];exact j2
  have hs:=Qnn op op (.slice a2 l.length cap2) (.slice a0 l.length cap) l l H7 ((hv2.ext hw2 hx3).ext hw3 hx37) (hv1.ext hw1 hx17) (by omega) (by omega)
  have e1:((op==op)&&decide (l=l))=true:=by simp
  rw[e1]at hs
  simp only[sxA,sxB,Nat.reduceBEq,Nat.reduceEqDiff,reduceCtorEq,mxA,mxB,Nat.reduceAdd,reduceIte,Nat.reduceLeDiff,splice,syA,k1,k2,beq_self_eq_true]
  refine hs.thenW ?_
  rintro _ _ hn8 hw8 ⟨rfl,k,rfl⟩
  simp only[Qa.next_up]at hn8
  simp only[sxA,sxB,Nat.reduceBEq,Nat.reduceEqDiff,reduceCtorEq,mxA,mxB,Nat.reduceAdd,reduceIte,Nat.reduceLeDiff,splice]
  refine(hAw _ (hT.q.ext H1 _ hw1 hT1 (hx17.up hn8))).thenW ?_
  rintro _ H9 hn9 hw9 rfl
  simp only[sxA,sxB,Nat.reduceBEq,Nat.reduceEqDiff,reduceCtorEq,mxA,mxB,Nat.reduceAdd,reduceIte,Nat.reduceLeDiff,splice,Zw]
  exact .mk (by have:=hx17.next;simp only[Qa.next_up]at hn9;omega) rfl
end Go.Proofs.YtdjkkoacinpdeaaGreatDoor.code
