/- PrintTells over the laid tables. -/
import Derived.Test.YtdjkkoacinpdeaaGreatDoorFDLaw
import Derived.Test.YtdjkkoacinpdeaaGreatDoorS2Known
import Derived.Test.YtdjkkoacinpdeaaGreatDoorA6Inst
set_option linter.unusedVariables false
set_option maxRecDepth 100000
noncomputable section
namespace Go.Proofs.YtdjkkoacinpdeaaGreatDoor.code
open Go.Ab
def Qns (tabs:List Tab) (H:Qa):Prop:=Qcm tabs H=true
theorem Ql2 {tabs:List Tab} (H H':Qa) (hw:H.Wf) (h:Qns tabs H) (hx:Ext H H'):Qns tabs H':=by
 unfold Qns Qcm at *
 rw[List.all_eq_true]at *
 intro t ht
 have h1:=h t ht
 cases hg:H.get t.id with
 | none=>rw[hg]at h1;cases h1
 | some b=>rw[hx.get _ (hw.lt hg)];exact h1
theorem QqJ:∀t∈tab.tabs,t.id<prog.globals.size:=by
 have h:(tab.tabs.all fun t=>Nat.blt t.id prog.globals.size)=true:=by kernel_rfl
 intro t ht
 have:=List.all_eq_true.1 h t ht
 rwa [Nat.blt_eq]at this
theorem Qn1:(XZ prog.globals.size tab.tabs).Wf:=fun id hid=>by
 cases hg:(XZ prog.globals.size tab.tabs).get id with
 | none=>rfl
 | some b=>
  obtain⟨t,h1,h2,_⟩:=Yt hg
  have:=QqJ t h1
  have hid:prog.globals.size≤id:=hid
  subst h2
  exact absurd this (by show ¬t.id<prog.globals.size;omega)
theorem Qtx:Qns tab.tabs (XZ prog.globals.size tab.tabs):=by unfold Qns;kernel_rfl
def Qt6 (l:List (List UInt8)):List UInt8:=(l.flatMap fun w=>32::w).drop 1
def Qn2:List Sum_:=(Qso.drop 1).map fun l=>⟨Qgp,[.string (mkS (Qt6 l))],.slice (some ⟨prog.globals.size,0,none⟩) l.length l.length,[⟨prog.globals.size,Qja l,9,false⟩]⟩
theorem Qnt:tab.okAll (QeX Qm2) Qn2=true:=by kernel_rfl
def knR:CallF:=QkE (QeX Qm2) (fun f args H=>QkD prog.globals.size tab.tabs f args H Qn2)
theorem QqK:CallOk prog knR:=Qm1 (Qbb QfQ) (QjU (tab.sums_ok (Qbb QfQ) Qnt (by kernel_rfl)))
theorem Quj:isV (.int .i64 4) ((run prog (QeX Qm2) 200 5 12).fn X6 [.int .u64 16] (XZ prog.globals.size tab.tabs))=true:=by kernel_rfl
theorem Qr9:(QiE.all fun p=>isV (.string (mkS (Xi ⟨p.1,p.2⟩))) ((run prog knR 2000 5 20).fn G3 [.agg #[.int .i64 p.1,.int .i64 p.2]] (XZ prog.globals.size tab.tabs)))=true:=by kernel_rfl
theorem Qty:QoV (Qns tab.tabs) where
 q:=⟨fun H H' hw h hx=>Ql2 H H' hw h hx,fun H hT=>QfX (Qbb QfQ) tab.tabs_ok (by kernel_rfl) rfl rfl Quj H hT⟩
 nm:=fun p hp H hT=>QfX QqK tab.tabs_ok (by kernel_rfl) (by simp[QiD,Ab.plain]) rfl (List.all_eq_true.1 Qr9 p hp) H hT
theorem Qsa:isV (.bool true) ((run prog knR 100000 5 60).fn XR [] (XZ prog.globals.size tab.tabs))=true:=by kernel_rfl
theorem Qsb (m:Mm) (op:Int) (va:Value) (l:List Ar) (hint next:Int) (H:Qa) (hT:Qns tab.tabs H) (hv:QY H va l) (hI:∀a∈l,I64 a.n) (hl:l.length≤9223372036854775807):Qf prog XO [.agg m.cells.toArray,.agg #[.int .i64 op,va],.int .i64 hint,.int .i64 next] H fun u H'=>u=.bool true∧True:=
 (Qk4 Qty (fun H hT=>(QfX QqK tab.tabs_ok (by kernel_rfl) rfl rfl Qsa H hT).mono fun _ _ h=>h.1) m op va l hint next H hT hv hI hl).mono fun _ _ h=>⟨h,trivial⟩
end Go.Proofs.YtdjkkoacinpdeaaGreatDoor.code
