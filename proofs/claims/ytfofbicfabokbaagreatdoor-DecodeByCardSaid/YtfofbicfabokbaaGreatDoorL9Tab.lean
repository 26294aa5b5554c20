/- The table, as a known call of closed runs. -/
import Derived.Test.YtfofbicfabokbaaGreatDoorS3Tells
import Derived.Test.YtfofbicfabokbaaGreatDoorLibA
set_option linter.unusedVariables false
set_option maxRecDepth 100000
noncomputable section
namespace Go.Proofs.YtfofbicfabokbaaGreatDoor.code
open Go.Ab
def LL:FuncId->List Fm:=λf=>bif Nat.beq f Qiv then L_alu else bif Nat.beq f Qfb then L_unary else bif Nat.beq f QgA then L_flow else bif Nat.beq f QgB then L_bits else bif Nat.beq f Qiw then L_sse else L_avx
theorem Qrr:∀x∈lis,KJ (V0 tab.tabs) x.2.2 (LL x.2.2):=by
 intro x hx;simp only[lis,LK,Ns,NN]at hx;rcases hx with rfl | rfl | rfl | rfl | rfl | rfl
 ·exact Qrl
 ·exact Qon
 ·exact QpF
 ·exact QpG
 ·exact Qrm
 ·exact Qrn
def Qib:List Fm:=L_alu++(L_unary++(L_flow++(L_bits++(L_sse++L_avx))))
theorem QEA (p:Fm->Bool):Qia LL 1 322 p lis=Qib.filter p:=by
 have h:Qia LL 1 322 (λ_=>true) lis=Qib:=by
  have e:∀l:List Fm,l.filter (λ_=>true)=l:=λl=>by simp
  simp only[Qia,lis,Ba,DG,Na,e];rfl
 rw[QCp,h]
theorem QvY {L:List Fm} {a b op:Int} (h:(L.all λf=>decide (a<=f.op)&&decide (f.op<=b))=true) (ho:op<a∨op>b):L.filter (λf=>f.op==op)=[]:=by
 rw[List.filter_eq_nil_iff];intro f hf;have:=Li.1 h f hf;simp only[Lm,Lv]at this;simp only[L0];omega
theorem rng:(L_alu.all λf=>decide (1<=f.op)&&decide (f.op<=16))=true∧(L_unary.all λf=>decide (16<=f.op)&&decide (f.op<=47))=true∧(L_flow.all λf=>decide (48<=f.op)&&decide (f.op<=115))=true∧(L_bits.all λf=>decide (116<=f.op)&&decide (f.op<=135))=true∧(L_sse.all λf=>decide (136<=f.op)&&decide (f.op<=262))=true∧(L_avx.all λf=>decide (263<=f.op)&&decide (f.op<=322))=true:=
 ⟨by kernel_rfl,by kernel_rfl,by kernel_rfl,by kernel_rfl,by kernel_rfl,by kernel_rfl⟩
theorem QGF (op:Int):Qia LL op op (λf=>f.op==op) lis=Qib.filter (λf=>f.op==op):=by
 have key:∀ (a b:Int) (L:List Fm),(L.all λf=>decide (a<=f.op)&&decide (f.op<=b))=true->(bif decide (op<a)||decide (op>b) then[] else L.filter λf=>f.op==op)=L.filter λf=>f.op==op:=λa b L h=>by
  cases hc:decide (op<a)||decide (op>b) with
  | false=>rfl
  | true=>
   simp only[Nw,Lv]at hc;rw[QvY h hc];rfl
 obtain⟨r1,r2,r3,r4,r5,r6⟩:=rng;have e:Qia LL op op (λf=>f.op==op) lis=(bif decide (op<1)||decide (op>16) then[] else L_alu.filter λf=>f.op==op)++((bif decide (op<16)||decide (op>47) then[] else L_unary.filter λf=>f.op==op)++((bif decide (op<48)||decide (op>115) then[] else L_flow.filter λf=>f.op==op)++((bif decide (op<116)||decide (op>135) then[] else L_bits.filter λf=>f.op==op)++((bif decide (op<136)||decide (op>262) then[] else L_sse.filter λf=>f.op==op)++((bif decide (op<263)||decide (op>322) then[] else L_avx.filter λf=>f.op==op)++[]))))):=rfl;rw[e,key _ _ _ r1,key _ _ _ r2,key _ _ _ r3,key _ _ _ r4,key _ _ _ r5,key _ _ _ r6,Na];simp only[Qib,Re]
theorem QvZ:Qib.length=834:=by kernel_rfl
theorem QpW:(Wv prog.globals.size tab.tabs).Wf:=λid hid=>by
 cases hg:(Wv prog.globals.size tab.tabs).get id with
 | none=>rfl
 | some b=>
  obtain⟨t,h1,h2,_⟩:=Y8 hg;have:=tab.tabs_low t h1;have hid:prog.globals.size<=id:=hid;subst h2;exact absurd this (by show ¬t.id<prog.globals.size;omega)
theorem QxJ:V0 tab.tabs (Wv prog.globals.size tab.tabs):=by unfold V0;kernel_rfl
def tkn:CallF:=QxI tab.tabs LL
theorem QGG:CallOk prog tkn:=Qz7 tab.tabs_ok tab.tabs_low QpW QxJ LL Qrr (by kernel_rfl) (by kernel_rfl)
def knT:CallF:=Zq (xknown tab.xt) tkn
theorem QGH:CallOk prog knT:=orKnown_ok tab.xt_ok QGG
theorem QGI (H:Qa) (hT:V0 tab.tabs H):Qh prog XL [] H λu H'=>QiS H H' u Qib:=by
 have:=QnB Qeg LL Qrr H hT;rwa [QEA,List.filter_eq_self.2 (λ_ _=>rfl)]at this
theorem QIh (op:Int) (H:Qa) (hT:V0 tab.tabs H):Qh prog Kd [.int .i64 op] H λu H'=>QiS H H' u (Qib.filter λf=>f.op==op):=by
 have:=Qrp Qeg LL Qrr op H hT;rwa [QGF]at this
theorem QiS.short {H H':Qa} {u:Value} {p:Fm->Bool} {ys:List Lf} (h:ys.map (·.f)=Qib.filter p):ys.length<=834:=by
 have h1:=congrArg List.length h;have h2:=R7 p Qib;rw[QvZ]at h2;simp only[Nn]at h1;omega
end Go.Proofs.YtfofbicfabokbaaGreatDoor.code
