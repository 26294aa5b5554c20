/- linotypekit.SameBytes of two rows of bytes. -/
import Derived.Test.YtgepgbbjfhggfaaGreatDoorLibC
import Derived.Test.YtgepgbbjfhggfaaGreatDoorC6Law
set_option linter.unusedVariables false
set_option linter.unusedSimpArgs false
set_option maxRecDepth 100000
set_option maxHeartbeats 4000000
namespace Go.Proofs.YtgepgbbjfhggfaaGreatDoor.code
open Go.Ab
def QD3 (a b:List Int):Bool:=(a.map λz=>z.toNat.toUInt8)==(b.map λz=>z.toNat.toUInt8)
theorem QqS:∀l:List Int,QhM (bys l)=some (l.map λz=>z.toNat.toUInt8)
 | []=>rfl
 | z::l=>by
  show(QhM (bys l)).map (z.toNat.toUInt8::·)=_;rw[QqS l];rfl
theorem QD4 {H0 H:Qa}{v:Value}{l:List Int}(h:Gx 1 5 H0 H v l.length (bys l)):∃a n c,v=.slice a n c∧Qcu 1 v H=some (bys l):=by
 rcases h with⟨rfl,h,_⟩ | ⟨b,c,rfl,_,h3,_⟩
 ·have:l=[]:=N2.1 h;subst this;exact⟨none,0,0,rfl,rfl⟩
 ·refine⟨_,_,_,rfl,?_⟩
  by_cases h0:l.length=0
  ·have:l=[]:=by simpa using h0
   subst this;simp[Qcu,bys]
  ·have hl:=Xd l;simp only[Qcu,h0,LN,h3];rw[Lc (by omega),Lw,LF (by omega)]
theorem Qx2 {A:Env}{H0 H:Qa}{k:Value->Qa->Prop}{src dst e:TypeId}{x:Operand}{v:Value}{l:List Int}(hs:prog.underlying src=some (.slice e))(he:prog.underlying e=some (.int .u8))(hd:prog.underlying dst=some .string)(hx:ev A x=v)(hr:Gx 1 5 H0 H v l.length (bys l)):
  pr prog (.gen (.convert src dst x)) false A H k=k (.string (mkS (l.map λz=>z.toNat.toUInt8))) H:=by
 obtain⟨a,n,c,rfl,hc⟩:=QD4 hr;have e1:rop prog (.gen (.convert src dst x)) A H=some (.string (mkS (l.map λz=>z.toNat.toUInt8)),H):=by
  simp only[rop,aop,Qgu,hs,hd,hx,he,hc,QqS]
 refine(W2 _).trans ?_;rw[e1,QM]
theorem QAX {H0 H1:Qa}(va vb:Value)(l m:List Int)(H:Qa)(ha:Gx 1 5 H0 H va l.length (bys l))(hb:Gx 1 5 H1 H vb m.length (bys m)):Qe prog 11 [va,vb] H λu H'=>u=.bool (QD3 l m)∧H'=H:=by
 refine Qgh λhw=>?_;simp only[VE,Qb,simprocAttr];rw[Qx2 (e:=5) (v:=va) (by kernel_rfl) (by kernel_rfl) (by kernel_rfl) (by simp only[Qg,simprocAttr]) ha];simp only[Qb,simprocAttr];rw[Qx2 (e:=5) (v:=vb) (by kernel_rfl) (by kernel_rfl) (by kernel_rfl) (by simp only[Qg,simprocAttr]) hb];simp only[Qb,simprocAttr,Qe7];exact .mk (Lb _) ⟨by rw[Qyz,Qyz];rfl,rfl⟩
theorem Qs6 (l:List Int):QD3 l l=true:=by unfold QD3;exact LO _
end Go.Proofs.YtgepgbbjfhggfaaGreatDoor.code
