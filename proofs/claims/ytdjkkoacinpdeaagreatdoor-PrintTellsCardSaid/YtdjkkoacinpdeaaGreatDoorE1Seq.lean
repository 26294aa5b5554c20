/- strings.SplitSeq over blanks; name.Name. -/
import Derived.Test.YtdjkkoacinpdeaaGreatDoorLibO
import Derived.Test.YtdjkkoacinpdeaaGreatDoorAbD
set_option linter.unusedVariables false
set_option linter.unusedSimpArgs false
set_option maxRecDepth 100000
set_option maxHeartbeats 4000000
namespace Go.Proofs.YtdjkkoacinpdeaaGreatDoor.code
open Go.Ab
theorem QlT {l:Nat} {args:List Value} {H:Qa} {k k':Value→Qa→Prop} (h:YQ prog l args H k) (hk:∀v H',H.next≤H'.next→H'.Wf→k v H'→k' v H'):YQ prog l args H k':=by
 intro hw
 obtain⟨v,H',h1,h2,h3,h4⟩:=h hw
 exact⟨v,H',h1,h2,h3,hk v H' h2 h3 h4⟩
abbrev pS (b:Nat):Value:=.pointer (some ⟨b,0,none⟩)
theorem Qm9 (s:List UInt8) (H:Qa):Qf prog Zl [.string (mkS s),.string (mkS [32])] H fun u H'=>u=.func (.func WL) #[] #[pS (H.next+1),pS H.next,pS (H.next+2)]∧H'=((H.push (.cells [.string (mkS s)] 9 false)).push (.cells [.string (mkS [32])] 9 false)).push (.cells [.int .i64 0] 3 false):=by
 refine Qel fun hw=>?_
 simp only[VP,sxA,sxB,Nat.reduceBEq,Nat.reduceEqDiff,reduceCtorEq,mxA,mxB,Nat.reduceAdd,reduceIte,Nat.reduceLeDiff,splice]
 have h2:Qf prog J6 [.string (mkS s),.string (mkS [32]),.int .i64 0] H fun u H'=>u=.func (.func WL) #[] #[pS (H.next+1),pS H.next,pS (H.next+2)]∧H'=((H.push (.cells [.string (mkS s)] 9 false)).push (.cells [.string (mkS [32])] 9 false)).push (.cells [.int .i64 0] 3 false):=by
  refine Qeo fun hw=>?_
  simp only[VR,sxA,sxB,Nat.reduceBEq,Nat.reduceEqDiff,reduceCtorEq,mxA,mxB,Nat.reduceAdd,reduceIte,Nat.reduceLeDiff,splice]
  simp only[QdR,uxA,uxB,Nat.reduceBEq]
  exact .mk (by simp only[Qa.next_push];omega) ⟨rfl,rfl⟩
 refine h2.thenW ?_
 rintro _ H1 hn hw1 ⟨rfl,rfl⟩
 simp only[sxA,sxB,Nat.reduceBEq,Nat.reduceEqDiff,reduceCtorEq,mxA,mxB,Nat.reduceAdd,reduceIte,Nat.reduceLeDiff,splice,QdP]
 exact .mk hn ⟨rfl,rfl⟩
theorem Qna {l bs ss bk:Nat} (s:List UInt8) (hl:s.length≤1000000) (H:Qa) (R:Nat→Qa→Prop) (Z:Qa→Prop)
  (hb:∀j H',R j H'→H.next≤H'.next∧(∃e ro,H'.get bs=some (.cells [.string (mkS [32])] e ro))∧∃e ro,H'.get bk=some (.cells [.int .i64 0] e ro))
  (hz:∀H',Z H'→H.next≤H'.next) (hs:∀j H' x v,R j H'→H'.get ss=some (.cells [x] 9 false)→R j (H'.set ss (.cells [v] 9 false)))
  (hy:∀j w H' x,(X8 s)[j]? = some w→R j H'→H'.get ss=some (.cells [x] 9 false)→YQ prog l [.string (mkS w)] H' fun v H2=>(v=.bool true∧R (j+1) H2∧H2.get ss=some (.cells [x] 9 false))∨(v=.bool false∧Z H2))
  (h0:R 0 H) (hg:H.get ss=some (.cells [.string (mkS s)] 9 false)):
  Qf prog WL [.func (.yield l) #[] #[],pS bs,pS ss,pS bk] H fun v H'=>R (X8 s).length H'∨Z H':=by
 refine Qdi fun hw=>?_
 obtain⟨_,⟨e1,ro1,g1⟩,⟨e2,ro2,g2⟩⟩:=hb 0 H h0
 have z1:(((1:Nat):Int)==0)=false:=rfl
 simp only[GP,Kz,sxA,sxB,Nat.reduceBEq,Nat.reduceEqDiff,reduceCtorEq,mxA,mxB,Nat.reduceAdd,reduceIte,Nat.reduceLeDiff,splice,g1,V5,JY,z1]
 refine Wq (fun m A' H'=>∃ (j:Nat) (r:List UInt8),m=r.length+1∧H'.Wf∧R j H'∧(X8 s).drop j=X8 r∧r.length≤s.length∧H'.get ss=some (.cells [.string (mkS r)] 9 false)∧A' 0=.func (.yield l) #[] #[]∧A' 1=pS bs∧A' 2=pS ss∧A' 3=pS bk) (s.length+1) ?_ ?_
 ·refine⟨0,s,rfl,hw,h0,rfl,Nat.le_refl _,hg,?_,?_,?_,?_⟩
  all_goals simp only[uxA,uxB,Nat.reduceBEq]
 ·rintro m A' H1 ⟨j,r,hm,hw1,hR,hd,hrl,hgs,r0,r1,r2,r3⟩
  obtain⟨hn1,⟨e1,ro1,g1⟩,⟨e2,ro2,g2⟩⟩:=hb j H1 hR
  simp only[Ky,Kx,sxA,sxB,Nat.reduceBEq,Nat.reduceEqDiff,reduceCtorEq,mxA,mxB,Nat.reduceAdd,reduceIte,Nat.reduceLeDiff,splice,r0,r1,r2,r3,g1,g2,hgs]
  refine(Qqj r 32 H1).thenW ?_
  rintro _ H2 _ hw2 ⟨rfl,rfl⟩
  have hge:=Lib.indexByte_ge r 32
  by_cases hneg:Lib.indexByte r 32<0
  ·have hnone:=Qg5 r (Qqk hneg)
   rw[hnone]at hd
   have hj:(X8 s)[j]? = some r:=by
    have:=congrArg (·[0]?) hd
    simpa using this
   have hlen:(X8 s).length=j+1:=by
    have:=congrArg List.length hd
    rw[List.length_drop]at this
    simp only[List.length_cons,List.length_nil]at this
    omega
   have d1:decide (Lib.indexByte r 32<0)=true:=decide_eq_true hneg
   simp only[sxA,sxB,Nat.reduceBEq,Nat.reduceEqDiff,reduceCtorEq,mxA,mxB,Nat.reduceAdd,reduceIte,Nat.reduceLeDiff,splice,r0,r2,d1,hgs,Qgn]
   refine QlT (hy j r H2 _ hj hR hgs) ?_
   rintro v H3 hn3 hw3 hv
   simp only[sxA,sxB,Nat.reduceBEq,Nat.reduceEqDiff,reduceCtorEq,mxA,mxB,Nat.reduceAdd,reduceIte,Nat.reduceLeDiff,splice,Gd]
   rcases hv with⟨rfl,hR3,_⟩ | ⟨rfl,hZ⟩
   ·exact .mk (hb _ _ hR3).1 (.inl (by rw[hlen];exact hR3))
   ·exact .mk (hz _ hZ) (.inr hZ)
  ·obtain⟨o,ho⟩:∃o:Nat,Lib.indexByte r 32=o:=⟨(Lib.indexByte r 32).toNat,by omega⟩
   obtain⟨ho1,ho2,ho3⟩:=Qql ho
   have d1:decide ((o:Int)<0)=false:=decide_eq_false (by omega)
   have w5:IntKind.i64.wrap ((o:Int)+0)=(o:Int):=w64 (by unfold I64;omega)
   have w6:IntKind.i64.wrap ((o:Int)+((1:Nat):Int))=((o+1:Nat):Int):=by rw[w64 (by unfold I64;omega)];rfl
   have hcut:X8 r=r.take o::X8 (r.drop (o+1)):=by
    have:=QiB (r.take o) (r.drop (o+1)) ho3
    rwa [← ho2]at this
   rw[hcut]at hd
   have hj:(X8 s)[j]? = some (r.take o):=by
    have:=congrArg (·[0]?) hd
    simpa using this
   have hd2:(X8 s).drop (j+1)=X8 (r.drop (o+1)):=by
    have:=congrArg List.tail hd
    simpa using this
   simp only[sxA,sxB,Nat.reduceBEq,Nat.reduceEqDiff,reduceCtorEq,mxA,mxB,Nat.reduceAdd,reduceIte,Nat.reduceLeDiff,splice,ho,r0,r1,r2,r3,d1,hgs,g1,g2,w5]
   rw[QoJ (s:=mkS r) (h:=o) (ik:=.i64) (by kernel_rfl) (by simp only[uxA,uxB,Nat.reduceBEq]) (by simp only[uxA,uxB,Nat.reduceBEq]) (by rw[JY];omega)]
   simp only[sxA,sxB,Nat.reduceBEq,Nat.reduceEqDiff,reduceCtorEq,mxA,mxB,Nat.reduceAdd,reduceIte,Nat.reduceLeDiff,splice,r0,r1,r2,r3,Qgn,JY]
   refine QlT (hy j (r.take o) H2 _ hj hR hgs) ?_
   rintro v H3 hn3 hw3 hv
   rcases hv with⟨rfl,hR3,hgs3⟩ | ⟨rfl,hZ⟩
   ·obtain⟨hn4,⟨e3,ro3,g3⟩,⟨e4,ro4,g4⟩⟩:=hb _ _ hR3
    simp only[sxA,sxB,Nat.reduceBEq,Nat.reduceEqDiff,reduceCtorEq,mxA,mxB,Nat.reduceAdd,reduceIte,Nat.reduceLeDiff,splice,r0,r1,r2,r3,hgs3,g3,V5,JY,List.length_cons,List.length_nil,w6]
    rw[QoI (s:=mkS r) (l:=o+1) (ik:=.i64) (by kernel_rfl) (by simp only[uxA,uxB,Nat.reduceBEq]) (by simp only[uxA,uxB,Nat.reduceBEq]) (by rw[JY];omega)]
    simp only[sxA,sxB,Nat.reduceBEq,Nat.reduceEqDiff,reduceCtorEq,mxA,mxB,Nat.reduceAdd,reduceIte,Nat.reduceLeDiff,splice,syA,r0,r1,r2,r3,hgs3]
    refine⟨(r.drop (o+1)).length+1,by rw[List.length_drop];omega,j+1,r.drop (o+1),rfl,hw3.set hgs3 _,hs _ _ _ _ hR3 hgs3,hd2,by rw[List.length_drop];omega,by rw[Qa.get_set,if_pos rfl],?_,?_,?_,?_⟩
    all_goals simp only[uxA,uxB,Nat.reduceBEq,r0,r1,r2,r3]
   ·simp only[sxA,sxB,Nat.reduceBEq,Nat.reduceEqDiff,reduceCtorEq,mxA,mxB,Nat.reduceAdd,reduceIte,Nat.reduceLeDiff,splice,Gd]
    exact .mk (hz _ hZ) (.inr hZ)
end Go.Proofs.YtdjkkoacinpdeaaGreatDoor.code
