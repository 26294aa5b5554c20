/- The table, as a known call of closed runs. -/
import Derived.Test.YtbkbdnlfkahaaaaGreatDoorS3Tells
import Derived.Test.YtbkbdnlfkahaaaaGreatDoorLibA
import Derived.Test.YtbkbdnlfkahaaaaGreatDoorLibD
set_option linter.unusedVariables false
set_option maxRecDepth 100000
noncomputable section
namespace Go.Proofs.YtbkbdnlfkahaaaaGreatDoor.code
open Go.Ab
def LL:FuncId->List Fm:=λf=>bif Nat.beq f YF then Qg3 else bif Nat.beq f Xt then QaF else bif Nat.beq f XX then Qdq else bif Nat.beq f XY then Qdr else bif Nat.beq f YG then Qg4 else Qg5
theorem QbL:∀x∈lis,YN (XL tab.tabs) x.2.2 (LL x.2.2):=by
 intro x hx;simp only[lis,LK,Ns,NN]at hx;rcases hx with rfl | rfl | rfl | rfl | rfl | rfl
 ·exact GK
 ·exact JR
 ·exact Kx
 ·exact Ky
 ·exact GL
 ·exact GM
def Qdu:List Fm:=Qg3++(QaF++(Qdq++(Qdr++(Qg4++Qg5))))
theorem Qjy (p:Fm->Bool):YU LL 1 322 p lis=Qdu.filter p:=by
 have h:YU LL 1 322 (λ_=>true) lis=Qdu:=by
  have e:∀l:List Fm,l.filter (λ_=>true)=l:=λl=>by simp
  simp only[YU,lis,Ba,DG,Na,e];rfl
 rw[Qg6,h]
theorem QbM:Qdu.length=834:=by kernel_rfl
theorem Qeb:(tabHeap prog.globals.size tab.tabs).Wf:=λid hid=>by
 cases hg:(tabHeap prog.globals.size tab.tabs).get id with
 | none=>rfl
 | some b=>
  obtain⟨t,h1,h2,_⟩:=QP hg;have:=tab.tabs_low t h1;have hid:prog.globals.size<=id:=hid;subst h2;exact absurd this (by show ¬t.id<prog.globals.size;omega)
theorem Qg7:XL tab.tabs (tabHeap prog.globals.size tab.tabs):=by unfold XL;kernel_rfl
def tkn:CallF:=Qdt tab.tabs LL
theorem QkO:CallOk prog tkn:=Qfe tab.tabs_ok tab.tabs_low Qeb Qg7 LL QbL (by kernel_rfl) (by kernel_rfl)
def knT:CallF:=QE (xknown tab.xt) tkn
theorem QkP:CallOk prog knT:=orKnown_ok tab.xt_ok QkO
theorem QkQ (H:Qa) (hT:XL tab.tabs H):Qm prog QJ [] H λu H'=>QaC H H' u Qdu:=by
 have:=Jv Ju LL QbL H hT;rwa [Qjy,List.filter_eq_self.2 (λ_ _=>rfl)]at this
theorem QaC.short {H H':Qa} {u:Value} {p:Fm->Bool} {ys:List Lf} (h:ys.map (·.f)=Qdu.filter p):ys.length<=834:=by
 have h1:=congrArg List.length h;have h2:=R7 p Qdu;rw[QbM]at h2;simp only[Nn]at h1;omega
def Qhc:Bool:=match prog.underlying QL with
 | some (.map k e)=>(match prog.underlying k,prog.info? e with
  | some (.int _),some inf=>(match inf.zero with | some (.pointer none)=>true | _=>false)
  | _,_=>false)
 | _=>false
theorem Qhd (h:Qhc=true):QbO QL:=by
 unfold Qhc at h;split at h
 ·rename_i k e h1;split at h
  ·rename_i ik inf h2 h3;split at h
   ·rename_i h4;exact⟨⟨k,e,_,inf,h1,h2,h3,h4,λc=>rfl⟩⟩
   ·cases h
  ·cases h
 ·cases h
theorem QkR:QbO QL:=Qhd (by kernel_rfl)
def knF:CallF:=QE knT (Qdw tab.tabs Qdu)
theorem QkS:CallOk prog knF:=orKnown_ok QkP (Qfh tab.tabs_ok tab.tabs_low Qeb Qg7 QkQ QkR (by kernel_rfl))
def knZ:CallF:=knF
theorem W4:CallOk prog knZ:=QkS
end Go.Proofs.YtbkbdnlfkahaaaaGreatDoor.code
