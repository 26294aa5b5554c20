/- Registers' names: the document's, and the program's. -/
import Derived.Test.YtdjkkoacinpdeaaGreatDoorLibI
import Derived.Test.YtdjkkoacinpdeaaGreatDoorLibO
import Derived.Test.YtdjkkoacinpdeaaGreatDoorAbD
import Derived.Test.YtdjkkoacinpdeaaGreatDoorE0Run
set_option linter.unusedVariables false
set_option linter.unusedSimpArgs false
set_option maxRecDepth 100000
set_option maxHeartbeats 4000000
namespace Go.Proofs.YtdjkkoacinpdeaaGreatDoor.code
open Go.Ab
def Qso:List (List (List UInt8)):=[[],[[97,108],[99,108],[100,108],[98,108],[115,112,108],[98,112,108],[115,105,108],[100,105,108],[114,56,98],[114,57,98],[114,49,48,98],[114,49,49,98],[114,49,50,98],[114,49,51,98],[114,49,52,98],[114,49,53,98]],[[97,104],[99,104],[100,104],[98,104]],[[97,120],[99,120],[100,120],[98,120],[115,112],[98,112],[115,105],[100,105],[114,56,119],[114,57,119],[114,49,48,119],[114,49,49,119],[114,49,50,119],[114,49,51,119],[114,49,52,119],[114,49,53,119]],[[101,97,120],[101,99,120],[101,100,120],[101,98,120],[101,115,112],[101,98,112],[101,115,105],[101,100,105],[114,56,100],[114,57,100],[114,49,48,100],[114,49,49,100],[114,49,50,100],[114,49,51,100],[114,49,52,100],[114,49,53,100]],[[114,97,120],[114,99,120],[114,100,120],[114,98,120],[114,115,112],[114,98,112],[114,115,105],[114,100,105],[114,56],[114,57],[114,49,48],[114,49,49],[114,49,50],[114,49,51],[114,49,52],[114,49,53]],[[120,109,109,48],[120,109,109,49],[120,109,109,50],[120,109,109,51],[120,109,109,52],[120,109,109,53],[120,109,109,54],[120,109,109,55],[120,109,109,56],[120,109,109,57],[120,109,109,49,48],[120,109,109,49,49],[120,109,109,49,50],[120,109,109,49,51],[120,109,109,49,52],[120,109,109,49,53]],[[121,109,109,48],[121,109,109,49],[121,109,109,50],[121,109,109,51],[121,109,109,52],[121,109,109,53],[121,109,109,54],[121,109,109,55],[121,109,109,56],[121,109,109,57],[121,109,109,49,48],[121,109,109,49,49],[121,109,109,49,50],[121,109,109,49,51],[121,109,109,49,52],[121,109,109,49,53]],[[114,105,112]]]
def Xi (r:Rg):List UInt8:=if WW r=true then(Qso.getD r.c.toNat []).getD (r.n - (Qdl r.c).1).toNat [] else[]
def QtU (c:Nat):Nat:=if c=2 then 4 else if c=8 then 1 else if c=0 then 0 else if 8<c then 0 else 16
def Qtc (c:Nat):Nat:=if c=2 then 4 else 0
def QiE:List (Nat×Nat):=(List.range 9).flatMap fun c=>(List.range (QtU c)).map fun n=>(c,Qtc c+n)
theorem QkP {r:Rg} (h:WW r=true):∃p∈QiE,r=⟨p.1,p.2⟩:=by
 obtain⟨c,n⟩:=r
 unfold WW Qdl at h
 have h:=of_decide_eq_true h
 have hc:1≤c∧c≤8:=by
  simp only at h
  repeat' (split at h)
  all_goals (simp only at h;omega)
 obtain⟨k,rfl⟩:∃k:Nat,c=k:=⟨c.toNat,by omega⟩
 have hk:k=1∨k=2∨k=3∨k=4∨k=5∨k=6∨k=7∨k=8:=by omega
 have hn:0≤n:=by
  simp only at h
  repeat' (split at h)
  all_goals (simp only at h;omega)
 obtain⟨m,rfl⟩:∃m:Nat,n=m:=⟨n.toNat,by omega⟩
 refine⟨(k,m),?_,rfl⟩
 unfold QiE
 rw[List.mem_flatMap]
 refine⟨k,List.mem_range.2 (by omega),?_⟩
 rw[List.mem_map]
 refine⟨m - Qtc k,List.mem_range.2 ?_,?_⟩
 all_goals (rcases hk with rfl | rfl | rfl | rfl | rfl | rfl | rfl | rfl<;>simp[Qtc,QtU]at h ⊢<;>omega)
theorem QjY {r:Rg} (h:WW r=true):Xi r≠[]:=by
 obtain⟨p,hp,rfl⟩:=QkP h
 have:(QiE.all fun p=>!(Xi ⟨p.1,p.2⟩==[]))=true:=by decide +kernel
 have:=List.all_eq_true.1 this p hp
 simpa using this
theorem Ka (r:Rg):(Xi r).length≤5:=by
 cases h:WW r with
 | true=>
  obtain⟨p,hp,rfl⟩:=QkP h
  have:(QiE.all fun p=>Nat.ble (Xi ⟨p.1,p.2⟩).length 5)=true:=by decide +kernel
  have:=List.all_eq_true.1 this p hp
  simpa using this
 | false=>unfold Xi;rw[h];simp
theorem QoS {r:Rg} (h:WW r=false):Xi r=[]:=by unfold Xi;rw[h];rfl
theorem X0 (r:Rg) (H:Qa):Qf prog WB [.agg r.cells.toArray] H fun u H'=>u=.bool (WW r)∧∃k,H'=H.up k:=by
 refine Qcd fun hw=>?_
 obtain⟨c,n⟩:=r
 simp(disch:=(first | omega | ((repeat (first | rw[Qa.next_push] | rw[Qa.next_set] | rw[Qa.next_up]));done) | ((repeat (first | rw[Qa.next_push] | rw[Qa.next_set] | rw[Qa.next_up]));omega))) only[Rg.cells,K3,Xo,Xp,Xq,Xr,Xs,sxA,sxB,Nat.reduceBEq,Nat.reduceEqDiff,reduceCtorEq,mxD,mxB,Nat.reduceAdd,reduceIte,Nat.reduceLeDiff,splice,YX]
 repeat' (first
   | (refine Qp (fun h=>?_) (fun h=>?_)<;>(try simp only[Bool.not_eq_true',Bool.not_eq_false']at h)<;>simp(disch:=(first | omega | ((repeat (first | rw[Qa.next_push] | rw[Qa.next_set] | rw[Qa.next_up]));done) | ((repeat (first | rw[Qa.next_push] | rw[Qa.next_set] | rw[Qa.next_up]));omega))) only[Xo,Xp,Xq,Xr,Xs,sxA,sxB,Nat.reduceBEq,Nat.reduceEqDiff,reduceCtorEq,mxD,mxB,Nat.reduceAdd,reduceIte,Nat.reduceLeDiff,splice,YX,h])
   | (refine Qe (fun h=>?_) (fun h=>?_)<;>(try simp only[Bool.not_eq_true',Bool.not_eq_false']at h)<;>simp(disch:=(first | omega | ((repeat (first | rw[Qa.next_push] | rw[Qa.next_set] | rw[Qa.next_up]));done) | ((repeat (first | rw[Qa.next_push] | rw[Qa.next_set] | rw[Qa.next_up]));omega))) only[Xo,Xp,Xq,Xr,Xs,sxA,sxB,Nat.reduceBEq,Nat.reduceEqDiff,reduceCtorEq,mxD,mxB,Nat.reduceAdd,reduceIte,Nat.reduceLeDiff,splice,YX,h])
   | (with_reducible refine⟨by simp[Qn,plain],by omega,?_⟩)
   | (with_reducible refine⟨by simp[Qn,plain],?_⟩)
   | fail)
 all_goals refine .ext hw ?_ ⟨?_,_,rfl⟩
 all_goals try (repeat' (first | exact Ext.refl _ | refine Ext.push ?_ _ | refine Ext.up ?_ (by simp only[Qa.next_push,Qa.next_set,Qa.next_up];omega) | refine Ext.set ?_ (by omega) _))
 all_goals (simp_all [WW,Qdl];try first | omega | (rw[Bool.eq_iff_iff];simp;omega))
theorem Qtd:(QiE.all fun p=>isV (.string (mkS (Xi ⟨p.1,p.2⟩))) ((run prog (QeX Qm2) 200 5 12).fn QW [.agg #[.int .i64 p.1,.int .i64 p.2]] (XZ prog.globals.size [])))=true:=by kernel_rfl
theorem Qcr (r:Rg) (H:Qa):Qf prog QW [.agg r.cells.toArray] H fun u H'=>u=.string (mkS (Xi r))∧∃k,H'=H.up k:=by
 cases h:WW r with
 | true=>
  obtain⟨p,hp,rfl⟩:=QkP h
  intro hw
  obtain⟨v,H',h1,h2,h3,rfl,rfl⟩:=QfX (Qbb QfQ) (tabs:=[]) (f:=QW) (args:=[.agg #[.int .i64 p.1,.int .i64 p.2]]) (u:=.string (mkS (Xi ⟨p.1,p.2⟩))) rfl (by kernel_rfl) (by simp[QiD,Ab.plain]) rfl (List.all_eq_true.1 Qtd p hp) H rfl hw
  exact⟨_,H',h1,h2,h3,rfl,H'.next,rfl⟩
 | false=>
  rw[QoS h]
  refine Qc3 fun hw=>?_
  have q:=X0 r
  rw[h]at q
  obtain⟨c,n⟩:=r
  simp only[Rg.cells]at q
  simp only[Rg.cells,GE,sxA,sxB,Nat.reduceBEq,Nat.reduceEqDiff,reduceCtorEq,mxA,mxB,Nat.reduceAdd,reduceIte,Nat.reduceLeDiff,splice]
  refine(q _).thenW ?_
  rintro _ H1 hn1 hw1 ⟨rfl,m,rfl⟩
  simp only[Qa.next_push]at hn1
  simp only[sxA,sxB,Nat.reduceBEq,Nat.reduceEqDiff,reduceCtorEq,mxA,mxB,Nat.reduceAdd,reduceIte,Nat.reduceLeDiff,splice,Qb9]
  exact .ext hw (((Ext.refl H).push _).up (by simp only[Qa.next_push];exact hn1)) ⟨rfl,_,rfl⟩
def Qsp (T:Qa→Prop):Prop:=∀p∈QiE,∀H,T H→Qf prog G3 [.agg #[.int .i64 p.1,.int .i64 p.2]] H fun u H'=>u=.string (mkS (Xi ⟨p.1,p.2⟩))∧H'=H
theorem Qfa {T:Qa→Prop} (hT:Qsp T) (r:Rg) (hr:WW r=true) (H:Qa) (hTH:T H):Qf prog G3 [.agg r.cells.toArray] H fun u H'=>u=.string (mkS (Xi r))∧H'=H:=by
 obtain⟨p,hp,rfl⟩:=QkP hr
 exact hT p hp H hTH
end Go.Proofs.YtdjkkoacinpdeaaGreatDoor.code
