/- Names of operations: name.Name, linotyperef07.Name. -/
import Derived.Test.YtdjkkoacinpdeaaGreatDoorE1Seq
import Derived.Test.YtdjkkoacinpdeaaGreatDoorLibI
set_option linter.unusedVariables false
set_option linter.unusedSimpArgs false
set_option maxRecDepth 100000
set_option maxHeartbeats 4000000
namespace Go.Proofs.YtdjkkoacinpdeaaGreatDoor.code
open Go.Ab
def Qff:List UInt8:=[97,100,100,32,111,114,32,97,100,99,32,115,98,98,32,97,110,100,32,115,117,98,32,120,111,114,32,99,109,112,32,109,111,118,32,116,101,115,116,32,120,99,104,103,32,108,101,97,32,109,111,118,122,120,32,109,111,118,115,120,32,109,111,118,115,120,100,32,105,109,117,108,32,105,110,99,32,100,101,99,32,110,101,103,32,110,111,116,32,109,117,108,32,100,105,118,32,105,100,105,118,32,114,111,108,32,114,111,114,32,114,99,108,32,114,99,114,32,115,104,108,32,115,104,114,32,115,97,114,32,115,104,108,100,32,115,104,114,100,32,98,115,119,97,112,32,120,97,100,100,32,99,109,112,120,99,104,103,32,98,116,32,98,116,115,32,98,116,114,32,98,116,99,32,98,115,102,32,98,115,114,32,99,98,119,32,99,119,100,101,32,99,100,113,101,32,99,119,100,32,99,100,113,32,99,113,111,32,112,117,115,104,32,112,111,112,32,110,111,112,32,114,101,116,32,108,101,97,118,101,32,99,97,108,108,32,106,109,112,32,105,110,116,51,32,115,121,115,99,97,108,108,32,117,100,50,32,104,108,116,32,99,108,99,32,115,116,99,32,99,109,99,32,99,108,100,32,115,116,100,32,108,97,104,102,32,115,97,104,102,32,99,112,117,105,100,32,114,100,116,115,99,32,106,111,32,106,110,111,32,106,98,32,106,97,101,32,106,101,32,106,110,101,32,106,98,101,32,106,97,32,106,115,32,106,110,115,32,106,112,32,106,110,112,32,106,108,32,106,103,101,32,106,108,101,32,106,103,32,115,101,116,111,32,115,101,116,110,111,32,115,101,116,98,32,115,101,116,97,101,32,115,101,116,101,32,115,101,116,110,101,32,115,101,116,98,101,32,115,101,116,97,32,115,101,116,115,32,115,101,116,110,115,32,115,101,116,112,32,115,101,116,110,112,32,115,101,116,108,32,115,101,116,103,101,32,115,101,116,108,101,32,115,101,116,103,32,99,109,111,118,111,32,99,109,111,118,110,111,32,99,109,111,118,98,32,99,109,111,118,97,101,32,99,109,111,118,101,32,99,109,111,118,110,101,32,99,109,111,118,98,101,32,99,109,111,118,97,32,99,109,111,118,115,32,99,109,111,118,110,115,32,99,109,111,118,112,32,99,109,111,118,110,112,32,99,109,111,118,108,32,99,109,111,118,103,101,32,99,109,111,118,108,101,32,99,109,111,118,103,32,112,111,112,99,110,116,32,108,122,99,110,116,32,116,122,99,110,116,32,97,110,100,110,32,98,101,120,116,114,32,98,108,115,105,32,98,108,115,109,115,107,32,98,108,115,114,32,98,122,104,105,32,112,100,101,112,32,112,101,120,116,32,109,117,108,120,32,114,111,114,120,32,115,97,114,120,32,115,104,108,120,32,115,104,114,120,32,97,100,99,120,32,97,100,111,120,32,109,111,118,98,101,32,99,114,99,51,50,32,109,111,118,97,112,115,32,109,111,118,117,112,115,32,109,111,118,97,112,100,32,109,111,118,117,112,100,32,109,111,118,100,113,97,32,109,111,118,100,113,117,32,109,111,118,115,115,32,109,111,118,115,100,32,109,111,118,100,32,109,111,118,113,32,97,100,100,112,115,32,97,100,100,112,100,32,97,100,100,115,115,32,97,100,100,115,100,32,115,117,98,112,115,32,115,117,98,112,100,32,115,117,98,115,115,32,115,117,98,115,100,32,109,117,108,112,115,32,109,117,108,112,100,32,109,117,108,115,115,32,109,117,108,115,100,32,100,105,118,112,115,32,100,105,118,112,100,32,100,105,118,115,115,32,100,105,118,115,100,32,109,105,110,112,115,32,109,105,110,112,100,32,109,105,110,115,115,32,109,105,110,115,100,32,109,97,120,112,115,32,109,97,120,112,100,32,109,97,120,115,115,32,109,97,120,115,100,32,115,113,114,116,112,115,32,115,113,114,116,112,100,32,115,113,114,116,115,115,32,115,113,114,116,115,100,32,97,110,100,112,115,32,97,110,100,112,100,32,97,110,100,110,112,115,32,97,110,100,110,112,100,32,111,114,112,115,32,111,114,112,100,32,120,111,114,112,115,32,120,111,114,112,100,32,117,99,111,109,105,115,115,32,117,99,111,109,105,115,100,32,99,111,109,105,115,115,32,99,111,109,105,115,100,32,99,118,116,115,105,50,115,115,32,99,118,116,115,105,50,115,100,32,99,118,116,116,115,115,50,115,105,32,99,118,116,116,115,100,50,115,105,32,99,118,116,115,115,50,115,100,32,99,118,116,115,100,50,115,115,32,115,104,117,102,112,115,32,115,104,117,102,112,100,32,117,110,112,99,107,108,112,115,32,117,110,112,99,107,108,112,100,32,117,110,112,99,107,104,112,115,32,117,110,112,99,107,104,112,100,32,112,97,100,100,98,32,112,97,100,100,119,32,112,97,100,100,100,32,112,97,100,100,113,32,112,115,117,98,98,32,112,115,117,98,119,32,112,115,117,98,100,32,112,115,117,98,113,32,112,109,117,108,108,119,32,112,109,117,108,108,100,32,112,109,117,108,117,100,113,32,112,97,110,100,32,112,97,110,100,110,32,112,111,114,32,112,120,111,114,32,112,99,109,112,101,113,98,32,112,99,109,112,101,113,119,32,112,99,109,112,101,113,100,32,112,99,109,112,103,116,98,32,112,99,109,112,103,116,119,32,112,99,109,112,103,116,100,32,112,109,105,110,117,98,32,112,109,97,120,117,98,32,112,109,105,110,115,119,32,112,109,97,120,115,119,32,112,97,118,103,98,32,112,97,118,103,119,32,112,115,97,100,98,119,32,112,117,110,112,99,107,108,98,119,32,112,117,110,112,99,107,108,119,100,32,112,117,110,112,99,107,108,100,113,32,112,117,110,112,99,107,108,113,100,113,32,112,117,110,112,99,107,104,98,119,32,112,117,110,112,99,107,104,119,100,32,112,117,110,112,99,107,104,100,113,32,112,117,110,112,99,107,104,113,100,113,32,112,97,99,107,115,115,119,98,32,112,97,99,107,117,115,119,98,32,112,97,99,107,115,115,100,119,32,112,97,99,107,117,115,100,119,32,112,115,104,117,102,98,32,112,104,97,100,100,119,32,112,104,97,100,100,100,32,112,97,98,115,98,32,112,97,98,115,119,32,112,97,98,115,100,32,112,115,108,108,119,32,112,115,108,108,100,32,112,115,108,108,113,32,112,115,114,108,119,32,112,115,114,108,100,32,112,115,114,108,113,32,112,115,114,97,119,32,112,115,114,97,100,32,112,115,108,108,100,113,32,112,115,114,108,100,113,32,112,115,104,117,102,100,32,112,115,104,117,102,108,119,32,112,115,104,117,102,104,119,32,112,97,108,105,103,110,114,32,112,98,108,101,110,100,119,32,112,109,111,118,109,115,107,98,32,112,116,101,115,116,32,114,111,117,110,100,115,115,32,114,111,117,110,100,115,100,32,118,109,111,118,97,112,115,32,118,109,111,118,117,112,115,32,118,109,111,118,97,112,100,32,118,109,111,118,117,112,100,32,118,109,111,118,100,113,97,32,118,109,111,118,100,113,117,32,118,97,100,100,112,115,32,118,97,100,100,112,100,32,118,97,100,100,115,115,32,118,97,100,100,115,100,32,118,115,117,98,112,115,32,118,115,117,98,112,100,32,118,115,117,98,115,115,32,118,115,117,98,115,100,32,118,109,117,108,112,115,32,118,109,117,108,112,100,32,118,109,117,108,115,115,32,118,109,117,108,115,100,32,118,100,105,118,112,115,32,118,100,105,118,112,100,32,118,100,105,118,115,115,32,118,100,105,118,115,100,32,118,109,105,110,112,115,32,118,109,105,110,112,100,32,118,109,97,120,112,115,32,118,109,97,120,112,100,32,118,97,110,100,112,115,32,118,97,110,100,112,100,32,118,111,114,112,115,32,118,111,114,112,100,32,118,120,111,114,112,115,32,118,120,111,114,112,100,32,118,112,97,100,100,98,32,118,112,97,100,100,119,32,118,112,97,100,100,100,32,118,112,97,100,100,113,32,118,112,115,117,98,98,32,118,112,115,117,98,119,32,118,112,115,117,98,100,32,118,112,115,117,98,113,32,118,112,97,110,100,32,118,112,97,110,100,110,32,118,112,111,114,32,118,112,120,111,114,32,118,112,99,109,112,101,113,98,32,118,112,99,109,112,101,113,119,32,118,112,99,109,112,101,113,100,32,118,112,115,104,117,102,98,32,118,112,115,104,117,102,100,32,118,112,97,108,105,103,110,114,32,118,112,98,108,101,110,100,118,98,32,118,122,101,114,111,117,112,112,101,114,32,118,122,101,114,111,97,108,108,32,118,112,116,101,115,116,32,118,102,109,97,100,100,49,51,50,112,115,32,118,102,109,97,100,100,50,49,51,112,115,32,118,102,109,97,100,100,50,51,49,112,115,32,118,102,109,97,100,100,49,51,50,112,100,32,118,102,109,97,100,100,50,49,51,112,100,32,118,102,109,97,100,100,50,51,49,112,100]
def nmL:List (List UInt8):=X8 Qff
def nmF (op:Int):List UInt8:=if WI op then nmL.getD (op - 1).toNat [] else[]
theorem QkU:nmL.length=322:=by decide +kernel
theorem Qth:QdN=(.seq (.ops [Ow 3 (.alloc 3 [.int .i64 0]),Ov (.st 1 (t 3) (Ci 0))]) (.seq (.seq (.ops [Ow 8 (.call Zl [(.const (.string (mkS Qff))),(.const (.string (mkS [32])))])]) (.block 0 (.rangeF (t 8) [9] (.ops [Om 4 (t 9)]) Qae))) (.seq (.ops [Ov (.st 1 (t 2) (.const (.string (mkS []))))]) .ret))):=rfl
theorem QlU (op:Int) (H:Qa):Qf prog QdI [.int .i64 op] H fun u H'=>u=.string (mkS (nmF op))∧Ext H H':=by
 refine QkA fun hw=>?_
 simp only[QfM,sxA,sxB,Nat.reduceBEq,Nat.reduceEqDiff,reduceCtorEq,mxA,mxB,Nat.reduceAdd,reduceIte,Nat.reduceLeDiff,splice]
 refine(V2 op _).thenW ?_
 rintro _ H1 hn hw1 ⟨rfl,hH1⟩
 have hx1:Ext H H1:=by rw[hH1];exact((Ext.refl H).push _).push _
 have hn1:H1.next=H.next+2:=by rw[hH1];rfl
 have g0:H1.get H.next=some (.cells [.int .i64 op] 3 false):=by rw[hH1,Qa.get_push,if_neg (by rw[Qa.next_push];omega),Qa.get_push,if_pos rfl]
 have g1:H1.get (H.next+1)=some (.cells [.string (mkS [])] 9 false):=by rw[hH1,Qa.get_push,if_pos (by rw[Qa.next_push])]
 clear hH1
 unfold nmF
 cases hv:WI op with
 | false=>
  simp only[sxA,sxB,Nat.reduceBEq,Nat.reduceEqDiff,reduceCtorEq,mxA,mxB,Nat.reduceAdd,reduceIte,Nat.reduceLeDiff,splice,syA,g1,QeB,Bool.false_eq_true]
  exact .mk (by rw[Qa.next_set];omega) ⟨rfl,hx1.set (by omega) _⟩
 | true=>
  have hop:1≤op∧op≤322:=by unfold WI at hv;simpa using hv
  have hslot:¬H1.next=H.next:=by omega
  simp only[Qth,sxA,sxB,Nat.reduceBEq,Nat.reduceEqDiff,reduceCtorEq,mxA,mxB,Nat.reduceAdd,reduceIte,Nat.reduceLeDiff,splice,hn1]
  generalize hH2:(H1.push (.cells [.int .i64 0] 3 false)).set (H.next+2) (.cells [.int .i64 0] 3 false)=H2
  have hw2:H2.Wf:=by rw[← hH2];exact(hw1.push _).set (b0:=.cells [.int .i64 0] 3 false) (by rw[Qa.get_push,if_pos hn1.symm]) _
  have hn2:H2.next=H.next+3:=by rw[← hH2,Qa.next_set,Qa.next_push,hn1]
  have hx2:Ext H H2:=by rw[← hH2];exact(hx1.push _).set (by omega) _
  have k0:H2.get H.next=some (.cells [.int .i64 op] 3 false):=by rw[← hH2,Qa.get_set,if_neg (by omega),Qa.get_push,if_neg (by omega)];exact g0
  have k1:H2.get (H.next+1)=some (.cells [.string (mkS [])] 9 false):=by rw[← hH2,Qa.get_set,if_neg (by omega),Qa.get_push,if_neg (by omega)];exact g1
  have k2:H2.get (H.next+2)=some (.cells [.int .i64 0] 3 false):=by rw[← hH2,Qa.get_set,if_pos rfl]
  clear hH2
  refine(Qm9 Qff H2).thenW ?_
  rintro _ H3 hn3 hw3 ⟨rfl,hH3⟩
  have hn3:H3.next=H.next+6:=by rw[hH3];simp only[Qa.next_push,hn2]
  have hx3:Ext H H3:=by rw[hH3];exact((hx2.push _).push _).push _
  have old:∀id b,H2.get id=some b→H3.get id=some b:=fun id b hb=>by
   have:=hw2.lt hb
   rw[hH3,Qa.get_push,if_neg (by simp only[Qa.next_push];omega),Qa.get_push,if_neg (by simp only[Qa.next_push];omega),Qa.get_push,if_neg (by omega)]
   exact hb
  have s0:H3.get (H.next+3)=some (.cells [.string (mkS Qff)] 9 false):=by
   rw[hH3,Qa.get_push,if_neg (by simp only[Qa.next_push];omega),Qa.get_push,if_neg (by simp only[Qa.next_push];omega),Qa.get_push,if_pos hn2.symm]
  have s1:H3.get (H.next+4)=some (.cells [.string (mkS [32])] 9 false):=by
   rw[hH3,Qa.get_push,if_neg (by simp only[Qa.next_push];omega),Qa.get_push,if_pos (by simp only[Qa.next_push];omega)]
  have s2:H3.get (H.next+5)=some (.cells [.int .i64 0] 3 false):=by
   rw[hH3,Qa.get_push,if_pos (by simp only[Qa.next_push];omega)]
  have k0:=old _ _ k0
  have k1:=old _ _ k1
  have k2:=old _ _ k2
  clear hH3 old
  simp only[sxA,sxB,Nat.reduceBEq,Nat.reduceEqDiff,reduceCtorEq,mxA,mxB,Nat.reduceAdd,reduceIte,Nat.reduceLeDiff,splice,hn2,hn3,QfK]
  rw[QlG WL [] [pS (H.next+4),pS (H.next+3),pS (H.next+5)]]
  intro L hY
  refine⟨by kernel_rfl,?_⟩
  simp only[hn3,List.nil_append,List.cons_append]
  let R:Nat→Qa→Prop:=fun j H'=>(j:Int)<op∧H.next+7≤H'.next∧Ext H H'∧H'.get H.next=some (.cells [.int .i64 op] 3 false)∧(∃x,H'.get (H.next+1)=some (.cells [x] 9 false))∧H'.get (H.next+2)=some (.cells [.int .i64 j] 3 false)∧H'.get (H.next+4)=some (.cells [.string (mkS [32])] 9 false)∧H'.get (H.next+5)=some (.cells [.int .i64 0] 3 false)∧H'.get (H.next+6)=some (L none)
  let Z:Qa→Prop:=fun H'=>H.next+7≤H'.next∧Ext H H'∧H'.get (H.next+1)=some (.cells [.string (mkS (nmL.getD (op - 1).toNat []))] 9 false)∧H'.get (H.next+6)=some (L (some .ret))
  have hn4:(H3.push (L none)).next=H.next+7:=by rw[Qa.next_push,hn3]
  refine(Qna (l:=H.next+6) (bs:=H.next+4) (ss:=H.next+3) (bk:=H.next+5) Qff (by decide +kernel) (H3.push (L none)) R Z ?_ ?_ ?_ ?_ ?_ ?_).thenW ?_
  ·rintro j H' ⟨_,h1,_,_,_,_,h2,h3,_⟩
   exact⟨by omega,⟨_,_,h2⟩,⟨_,_,h3⟩⟩
  ·rintro H' ⟨h1,_⟩;omega
  ·rintro j H' x v ⟨h0,h1,h2,h3,⟨y,h4⟩,h5,h6,h7,h8⟩ hx
   exact⟨h0,by rw[Qa.next_set];exact h1,h2.set (by omega) _,by rw[Qa.get_set,if_neg (by omega)];exact h3,⟨y,by rw[Qa.get_set,if_neg (by omega)];exact h4⟩,by rw[Qa.get_set,if_neg (by omega)];exact h5,by rw[Qa.get_set,if_neg (by omega)];exact h6,by rw[Qa.get_set,if_neg (by omega)];exact h7,by rw[Qa.get_set,if_neg (by omega)];exact h8⟩
  ·rintro j w H' x hj ⟨h0,h1,h2,h3,⟨y,h4⟩,h5,h6,h7,h8⟩ hx
   refine hY _ _ _ _ h8 rfl ?_
   have kk:∀id,id≠H.next+6→(H'.kill (H.next+6)).get id=H'.get id:=fun id hid=>by rw[Qa.get_kill,if_neg hid]
   have wj:IntKind.i64.wrap ((j:Int)+1)=((j+1:Nat):Int):=by rw[w64 (by unfold I64;omega)];rfl
   have e0:=(kk H.next (by omega)).trans h3
   have e1:=(kk (H.next+1) (by omega)).trans h4
   have e2:=(kk (H.next+2) (by omega)).trans h5
   have e4:=(kk (H.next+4) (by omega)).trans h6
   have e5:=(kk (H.next+5) (by omega)).trans h7
   have e3:=(kk (H.next+3) (by omega)).trans hx
   have hxk:Ext H (H'.kill (H.next+6)):=⟨by show H.next≤H'.next;omega,fun id hid=>by rw[kk id (by omega)];exact h2.get id hid⟩
   have hnk:(H'.kill (H.next+6)).next=H'.next:=rfl
   generalize H'.kill (H.next+6)=H4 at *
   have q0:(H4.set (H.next+2) (.cells [.int .i64 ((j+1:Nat):Int)] 3 false)).get H.next=some (.cells [.int .i64 op] 3 false):=by rw[Qa.get_set,if_neg (by omega)];exact e0
   have q1:(H4.set (H.next+2) (.cells [.int .i64 ((j+1:Nat):Int)] 3 false)).get (H.next+1)=some (.cells [y] 9 false):=by rw[Qa.get_set,if_neg (by omega)];exact e1
   have q2:(H4.set (H.next+2) (.cells [.int .i64 ((j+1:Nat):Int)] 3 false)).get (H.next+2)=some (.cells [.int .i64 ((j+1:Nat):Int)] 3 false):=by rw[Qa.get_set,if_pos rfl]
   simp only[Qae,sxA,sxB,Nat.reduceBEq,Nat.reduceEqDiff,reduceCtorEq,mxA,mxB,Nat.reduceAdd,reduceIte,Nat.reduceLeDiff,splice,syA,rgA,e2,wj,q0,q2]
   cases hb:(((j+1:Nat):Int)==op) with
   | true=>
    have hop1:(op - 1).toNat=j:=by have:=beq_iff_eq.1 hb;omega
    have hw0:nmL.getD (op - 1).toNat []=w:=by
     rw[hop1,List.getD_eq_getElem?_getD]
     show((X8 Qff)[j]?).getD []=w
     rw[hj];rfl
    simp only[sxA,sxB,Nat.reduceBEq,Nat.reduceEqDiff,reduceCtorEq,mxA,mxB,Nat.reduceAdd,reduceIte,Nat.reduceLeDiff,splice,syA,rgA,q1]
    refine⟨by omega,.inr ⟨by simp only[Qa.next_set];omega,((hxk.set (by omega) _).set (by omega) _).set (by omega) _,?_,by rw[Qa.get_set,if_pos rfl]⟩⟩
    rw[Qa.get_set,if_neg (by omega),Qa.get_set,if_pos rfl,hw0]
   | false=>
    have hne:=beq_eq_false_iff_ne.1 hb
    simp only[sxA,sxB,Nat.reduceBEq,Nat.reduceEqDiff,reduceCtorEq,mxA,mxB,Nat.reduceAdd,reduceIte,Nat.reduceLeDiff,splice,rgA]
    refine⟨by omega,.inl ⟨⟨by omega,by simp only[Qa.next_set];omega,(hxk.set (by omega) _).set (by omega) _,?_,⟨y,?_⟩,?_,?_,?_,by rw[Qa.get_set,if_pos rfl]⟩,?_⟩⟩
    rotate_right
    ·exact e3
    all_goals (rw[Qa.get_set,if_neg (by omega)])
    ·exact q0
    ·exact q1
    ·exact q2
    all_goals (rw[Qa.get_set,if_neg (by omega)])
    ·exact e4
    ·exact e5
  ·refine⟨by omega,by omega,hx3.push _,?_,⟨.string (mkS []),?_⟩,?_,?_,?_,by rw[Qa.get_push,if_pos hn3.symm]⟩
   all_goals (rw[Qa.get_push,if_neg (by omega)])
   ·exact k0
   ·exact k1
   ·exact k2
   ·exact s1
   ·exact s2
  ·rw[Qa.get_push,if_neg (by omega)];exact s0
  ·rintro v H5 hn5 hw5 hv5
   rcases hv5 with⟨h0,_⟩ | ⟨h1,h2,h3,h4⟩
   ·exfalso
    have:(X8 Qff).length=322:=QkU
    rw[this]at h0
    omega
   ·refine⟨some .ret,h4,?_⟩
    have h3:(H5.kill (H.next+6)).get (H.next+1)=some (.cells [.string (mkS (nmL.getD (op - 1).toNat []))] 9 false):=by rw[Qa.get_kill,if_neg (by omega)];exact h3
    simp only[sxA,sxB,Nat.reduceBEq,Nat.reduceEqDiff,reduceCtorEq,mxA,mxB,Nat.reduceAdd,reduceIte,Nat.reduceLeDiff,splice,rgA,QeB,h3]
    exact .mk (by show H.next≤H5.next;omega) ⟨rfl,⟨by show H.next≤H5.next;omega,fun id hid=>by rw[Qa.get_kill,if_neg (by omega)];exact h2.get id hid⟩⟩
end Go.Proofs.YtdjkkoacinpdeaaGreatDoor.code
