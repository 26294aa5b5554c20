/- PrintSame over the laid tables. -/
import Derived.Test.YtiepokkmhhginaaGreatDoorLibP
import Derived.Test.YtiepokkmhhginaaGreatDoorL9Tab
import Derived.Test.YtiepokkmhhginaaGreatDoorLibZ
set_option linter.unusedVariables false
set_option maxRecDepth 100000
noncomputable section
namespace Go.Proofs.YtiepokkmhhginaaGreatDoor.code
open Go.Ab
def QF5 (l:List (List UInt8)):List UInt8:=(l.flatMap λw=>32::w).drop 1
def QsN:List QB8:=(QDk.drop 1).map λl=>⟨Qlm,[.string (mkS (QF5 l))],.slice (some ⟨prog.globals.size,0,none⟩) l.length l.length,[⟨prog.globals.size,Qtz l,9,false⟩]⟩
theorem Qwx:(QsN.all λs=>Qmv prog.globals.size s.u s.rs ((run prog (xknown QyB) 100000 5 60).fn s.f s.args (Xc prog.globals.size tab.tabs)))=true:=by kernel_rfl
def knR:CallF:=KB (xknown QyB) (λf args H=>QrD prog.globals.size tab.tabs f args H QsN)
theorem Qwy:(QsN.all λs=>entered prog s.f&&s.args.all XA)=true:=by kernel_rfl
theorem QA5:CallOk prog knR:=orKnown_ok (xknown_ok Qnu) (QqJ λs hs=>by
 have h1:=Li.1 Qwx s hs;have h2:=Li.1 Qwy s hs;simp only[Lm]at h2;exact⟨h2.1,λH hH=>Qtu (xknown_ok Qnu) h2.1 h2.2 tab.tabs_ok h1 H hH⟩)
theorem QGF:isV (.int .i64 4) ((run prog (xknown QyB) 200 5 12).fn XK [.int .u64 16] (Xc prog.globals.size tab.tabs))=true:=by kernel_rfl
theorem QC7:(QqO.all λp=>isV (.string (mkS (Wo ⟨p.1,p.2⟩))) ((run prog knR 2000 5 20).fn GH [.agg #[.int .i64 p.1,.int .i64 p.2]] (Xc prog.globals.size tab.tabs)))=true:=by kernel_rfl
theorem QE0:QyE (Qf2 tab.tabs) where
 q:=⟨λH H' hw h hx=>Qpk H H' hw h hx,λH hT=>Qor (xknown_ok Qnu) tab.tabs_ok (by kernel_rfl) rfl rfl QGF H hT⟩
 nm:=λp hp H hT=>Qor QA5 tab.tabs_ok (by kernel_rfl) (by simp[QrM,Ab.plain]) rfl (Li.1 QC7 p hp) H hT
theorem QC8:isV (.bool true) ((run prog knR 100000 5 60).fn XB [] (Xc prog.globals.size tab.tabs))=true:=by kernel_rfl
theorem Qza (H:Qa) (hT:Qf2 tab.tabs H):Qg prog XB [] H λu H'=>u=.bool true∧Ext H H':=
 (Qor QA5 tab.tabs_ok (by kernel_rfl) rfl rfl QC8 H hT).mono λ_ _ h=>⟨h.1,by rw[h.2];exact .refl _⟩
def QF6:List Fm:=Qpq.filter λf=>f.shapes.any Qv9
theorem QC9:(QF6.all λf=>Qpq.all λg=>!(g.op==f.op)||!(g.shapes.any Qus))=true:=by kernel_rfl
theorem QE1 (op:Int):∀f∈Qpq.filter (λf=>f.op==op),∀g∈Qpq.filter (λf=>f.op==op),∀s∈f.shapes,∀t∈g.shapes,Qus s=true->Qv9 t=true->False:=by
 intro f hf g hg s hs t ht hi hr;obtain⟨f1,f2⟩:=Bo.1 hf;obtain⟨g1,g2⟩:=Bo.1 hg;have hgr:g∈QF6:=Bo.2 ⟨g1,Bh.2 ⟨t,ht,hr⟩⟩;have h:=Li.1 (Li.1 QC9 g hgr) f f1;have e:(f.op==g.op)=true:=by rw[eq_of_beq f2,eq_of_beq g2];exact LO _
 have e2:f.shapes.any Qus=true:=Bh.2 ⟨s,hs,hi⟩;rw[e,e2]at h;cases h
theorem QF7 (o:Int) (va:Value) (xs:List Ar) (p:Int) (vb:Value) (ys:List Ar) (next:Int) (H:Qa) (hT:Qf2 tab.tabs H) (ha:Q0 H va xs) (hva:∀n,H.next<=n->Qm n 6 (.agg #[.int .i64 o,va])=true) (hIx:∀a∈xs,I64 a.n) (hb:Q0 H vb ys) (hvb:∀n,H.next<=n->Qm n 6 (.agg #[.int .i64 p,vb])=true) (hIy:∀a∈ys,I64 a.n):
  Qg prog XJ [.agg #[.int .i64 o,va],.agg #[.int .i64 p,vb],.int .i64 next] H λu H'=>u=.bool true∧Ext H H':=
 Quv (L:=λop=>Qpq.filter λf=>f.op==op) QE0 (λop H h=>QGE op H h) Qza QE1 H hT ha hb hIx hIy hva hvb
end Go.Proofs.YtiepokkmhhginaaGreatDoor.code
