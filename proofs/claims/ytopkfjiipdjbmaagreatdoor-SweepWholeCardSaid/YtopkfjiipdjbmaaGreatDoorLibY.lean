import Derived.Test.YtopkfjiipdjbmaaGreatDoorLibX
import Derived.Test.YtopkfjiipdjbmaaGreatDoorLibA
import Derived.Test.YtopkfjiipdjbmaaGreatDoorLibO
import Derived.Test.YtopkfjiipdjbmaaGreatDoorLibW
import Derived.Test.YtopkfjiipdjbmaaGreatDoorLibZ
set_option linter.defProp false
set_option maxRecDepth 100000
set_option linter.unusedVariables false
noncomputable section
namespace Go.Proofs.YtopkfjiipdjbmaaGreatDoor.code
open Go.Ab
def QrW:QiG (QgB tab.tabs) 123 QxH:=ZA tab.tabs_ok tab.tabs_low tab.all_sums3_0 (by kernel_rfl)
def Qol:QiG (QgB tab.tabs) 124 QmE:=ZA tab.tabs_ok tab.tabs_low tab.all_sums4_0 (by kernel_rfl)
def Qp8:QiG (QgB tab.tabs) 125 QrU:=ZA tab.tabs_ok tab.tabs_low tab.all_sums5_0 (by kernel_rfl)
def Qp9:QiG (QgB tab.tabs) 126 QrV:=ZA tab.tabs_ok tab.tabs_low tab.all_sums6_0 (by kernel_rfl)
def QrX:QiG (QgB tab.tabs) 127 QxI:=ZA tab.tabs_ok tab.tabs_low tab.all_sums7_0 (by kernel_rfl)
def QrY:QiG (QgB tab.tabs) 128 QxJ:=ZA tab.tabs_ok tab.tabs_low tab.all_sums8_0 (by kernel_rfl)
def LL:FuncId->List Fm:=λf=>bif Nat.beq f 123 then QxH else bif Nat.beq f 124 then QmE else bif Nat.beq f 125 then QrU else bif Nat.beq f 126 then QrV else bif Nat.beq f 127 then QxI else QxJ
def QxX:∀x∈lis,QiG (QgB tab.tabs) x.2.2 (LL x.2.2):=by
 intro x hx;simp only[lis,LK,Ns,NN]at hx;rcases hx with rfl | rfl | rfl | rfl | rfl | rfl;·exact QrW
 ·exact Qol
 ·exact Qp8
 ·exact Qp9
 ·exact QrX
 exact QrY
def QiJ:List Fm:=QxH++(QmE++(QrU++(QrV++(QxI++QxJ))))
def QHy (p:Fm->Bool):QhX LL 1 322 p lis=QiJ.filter p:=by
 have h:QhX LL 1 322 (λ_=>true) lis=QiJ:=by
  have e:∀l:List Fm,l.filter (λ_=>true)=l:=λl=>by simp
  simp only[QhX,lis,Ba,DG,Na,e];rfl
 rw[QEY,h]
def QxY {L:List Fm}{a b op:Int}(h:(L.all λf=>decide (a<=f.op)&&decide (f.op<=b))=true)(ab:op<a∨op>b):L.filter (λf=>f.op==op)=[]:=by
 rw[List.filter_eq_nil_iff];intro f aa;have:=Li.1 h f aa;simp only[Lm,Lv]at this;simp only[L0];omega
def rng:(QxH.all λf=>decide (1<=f.op)&&decide (f.op<=16))=true∧(QmE.all λf=>decide (16<=f.op)&&decide (f.op<=47))=true∧(QrU.all λf=>decide (48<=f.op)&&decide (f.op<=115))=true∧(QrV.all λf=>decide (116<=f.op)&&decide (f.op<=135))=true∧(QxI.all λf=>decide (136<=f.op)&&decide (f.op<=262))=true∧(QxJ.all λf=>decide (263<=f.op)&&decide (f.op<=322))=true:=
 ⟨by kernel_rfl,by kernel_rfl,by kernel_rfl,by kernel_rfl,by kernel_rfl,by kernel_rfl⟩
def QJM (op:Int):QhX LL op op (λf=>f.op==op) lis=QiJ.filter (λf=>f.op==op):=by
 have key:∀ (a b:Int) (L:List Fm),(L.all λf=>decide (a<=f.op)&&decide (f.op<=b))=true->(bif decide (op<a)||decide (op>b) then[] else L.filter λf=>f.op==op)=L.filter λf=>f.op==op:=λa b L h=>by
  cases aa:decide (op<a)||decide (op>b) with
  | false=>rfl
  | true=>
   simp only[Nw,Lv]at aa;rw[QxY h aa];rfl
 obtain⟨r1,r2,r3,r4,ab,ac⟩:=rng;have e:QhX LL op op (λf=>f.op==op) lis=(bif decide (op<1)||decide (op>16) then[] else QxH.filter λf=>f.op==op)++((bif decide (op<16)||decide (op>47) then[] else QmE.filter λf=>f.op==op)++((bif decide (op<48)||decide (op>115) then[] else QrU.filter λf=>f.op==op)++((bif decide (op<116)||decide (op>135) then[] else QrV.filter λf=>f.op==op)++((bif decide (op<136)||decide (op>262) then[] else QxI.filter λf=>f.op==op)++((bif decide (op<263)||decide (op>322) then[] else QxJ.filter λf=>f.op==op)++[]))))):=rfl;rw[e,key _ _ _ r1,key _ _ _ r2,key _ _ _ r3,key _ _ _ r4,key _ _ _ ab,key _ _ _ ac,Na];simp only[QiJ,Re]
def QxZ:QiJ.length=834:=by kernel_rfl
def QBv:(Xs Pg.globals.size tab.tabs).Wf:=λid aa=>by
 cases ad:(Xs Pg.globals.size tab.tabs).get id with
 | none=>rfl
 | some b=>
  obtain⟨t,ab,ac,_⟩:=Yh ad;have:=tab.tabs_low t ab;have aa:Pg.globals.size<=id:=aa;subst ac;exact absurd this (by show ¬t.id<Pg.globals.size;omega)
def QJN:QgB tab.tabs (Xs Pg.globals.size tab.tabs):=by unfold QgB;kernel_rfl
def QJO (H:Qa)(aa:QgB tab.tabs H):Qe Pg 48 [] H λu H'=>QaY H H' u QiJ:=by
 have:=QvR QiH LL QxX H aa;rwa [QHy,List.filter_eq_self.2 (λ_ _=>rfl)]at this
def QMi (op:Int)(H:Qa)(aa:QgB tab.tabs H):Qe Pg 36 [.Z op] H λu H'=>QaY H H' u (QiJ.filter λf=>f.op==op):=by
 have:=QAn QiH LL QxX op H aa;rwa [QJM]at this
def QaY.short {H H':Qa}{u:Value}{p:Fm->Bool}{aa:List Lf}(h:aa.map (·.f)=QiJ.filter p):aa.length<=834:=by
 have ab:=congrArg List.length h;have ac:=R7 p QiJ;rw[QxZ]at ac;simp only[Nn]at ab;omega
def QLg (l:List (List UInt8)):List UInt8:=(l.flatMap λw=>32::w).drop 1
def QvS:List QG4:=(QIF.drop 1).map λl=>⟨143,[.string (mkS (QLg l))],.S Pg.globals.size l.length l.length,[⟨Pg.globals.size,Qxg l,9,false⟩]⟩
def QAo:(QvS.all λs=>Qpu Pg.globals.size s.u s.rs ((run Pg (xknown QCS) 100000 5 60).fn s.f s.args (Xs Pg.globals.size tab.tabs)))=true:=by kernel_rfl
def knR:CallF:=G6 (xknown QCS) (λf args H=>Qvf Pg.globals.size tab.tabs f args H QvS)
def QAp:(QvS.all λs=>entered Pg s.f&&s.args.all Xq)=true:=by kernel_rfl
def QJP:CallOk Pg knR:=orKnown_ok (xknown_ok QqI) (Quo λs ab=>by
 have ac:=Li.1 QAo s ab;have aa:=Li.1 QAp s ab;simp only[Lm]at aa;exact⟨aa.1,λH ad=>Qxb (xknown_ok QqI) aa.1 aa.2 tab.tabs_ok ac H ad⟩)
def QMj:isV (.Z 4) ((run Pg (xknown QCS) 200 5 12).fn 139 [.int .u64 16] (Xs Pg.globals.size tab.tabs))=true:=by kernel_rfl
def QHz:(Qxn.all λp=>isV (.string (mkS (Qad ⟨p.1,p.2⟩))) ((run Pg knR 2000 5 20).fn 80 [.agg #[.Z p.1,.Z p.2]] (Xs Pg.globals.size tab.tabs)))=true:=by kernel_rfl
def QJQ:QrH (QgB tab.tabs) where
 q:=⟨λH H' ac h hx=>QiH H H' ac h hx,λH aa=>Qxm (xknown_ok QqI) tab.tabs_ok (by kernel_rfl) rfl rfl QMj H aa⟩
 nm:=λp ab H aa=>Qxm QJP tab.tabs_ok (by kernel_rfl) (by simp[Qvo,Ab.plain]) rfl (Li.1 QHz p ab) H aa
def QDA (op:Int):List Fm:=QiJ.filter λf=>f.op==op
def QKI:QhN 64:=QFY (by kernel_rfl)
def aw1:(QIp QiJ QDA [235,254] 0==[111,114,103,32,48,120,48,10,106,109,112,32,115,104,111,114,116,32,48,120,48,10])=true:=by kernel_rfl
def aw2:((XA QiJ [235,254] 2 0).all λp=>decide ((svP QDA 0 p).tx.length<=100000))=true:=by kernel_rfl
def aw3:(((XA QiJ [144,6,131,192,5] 5 0).map (svP QDA 256)).map (·.tx)==[[110,111,112],[100,98,32,48,120,54],[97,100,100,32,101,97,120,44,32,48,120,53]])=true:=by kernel_rfl
def aw4:(XA QiJ [144,6] 2 0).all (okP QDA)=true:=by kernel_rfl
def QMM:QKG QiJ QDA:=⟨eq_of_beq aw1,λp aa=>Lg (Li.1 aw2 p aa),eq_of_beq aw3,aw4⟩
def QKJ:(QiJ.all λf=>Nat.beq f.shapes.length f.slots.length)=true:=by kernel_rfl
def QLZ:∀f∈QiJ,f.shapes.length=f.slots.length:=λf aa=>LA (Li.1 QKJ f aa)
def ByC (H:Qa)(v:Value)(bs:List Int):Prop:=Qh3 H v bs∧∃a cap,v=.slice a bs.length cap∧bs.length<=cap∧cap<UNK
def ByC.c {H:Qa}{v:Value}{bs:List Int}(h:ByC H v bs):ZJ H v bs:=by
 obtain⟨aa,a,cap,e,ab,ac⟩:=h;exact⟨a,cap,e,ab,ac,aa⟩
