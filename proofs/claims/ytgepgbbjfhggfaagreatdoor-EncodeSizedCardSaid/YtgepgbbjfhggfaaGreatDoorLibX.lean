/- What is known ahead of the closed runs. -/
import Derived.Test.YtgepgbbjfhggfaaGreatDoorS1Laid
import Derived.Test.YtgepgbbjfhggfaaGreatDoorS0PA
import Derived.Test.YtgepgbbjfhggfaaGreatDoorS0PB
import Derived.Test.YtgepgbbjfhggfaaGreatDoorS0PC
import Derived.Test.YtgepgbbjfhggfaaGreatDoorS0PD
import Derived.Test.YtgepgbbjfhggfaaGreatDoorS0PE
import Derived.Test.YtgepgbbjfhggfaaGreatDoorLibA
import Derived.Test.YtgepgbbjfhggfaaGreatDoorLibV
import Derived.Test.YtgepgbbjfhggfaaGreatDoorLibM
set_option maxRecDepth 100000
set_option linter.unusedVariables false
noncomputable section
namespace Go.Proofs.YtgepgbbjfhggfaaGreatDoor.tab
open Go.ChangeShapes Go.WideShapes Go.ChangeAt Go.RowKit
theorem QIk:Ab.IsExt Tryz.prog 396 .count:=⟨Tryz.f396,Tryz.func396,by kernel_rfl,by kernel_rfl,by kernel_rfl,by kernel_rfl⟩
theorem QIl:Ab.IsExt Tryz.prog 421 .indexByte:=⟨Tryz.f421,Tryz.func421,by kernel_rfl,by kernel_rfl,by kernel_rfl,by kernel_rfl⟩
theorem Qcs:Ab.CallOk Tryz.prog (Ab.xknown xt):=Ab.xknown_ok λf k h=>by
 unfold xt at h;cases q:Nat.beq f 396 with
 | true=>
  rw[q]at h;cases h;obtain rfl:=Nat.eq_of_beq_eq_true q;exact QIk
 | false=>
  rw[q]at h;cases aa:Nat.beq f 421 with
  | true=>
   rw[aa]at h;cases h;obtain rfl:=Nat.eq_of_beq_eq_true aa;exact QIl
  | false=>
   rw[aa]at h;cases h
theorem tabs_low:∀t∈tabs,t.id<Tryz.prog.globals.size:=by
 have h:(tabs.all λt=>Nat.blt t.id Tryz.prog.globals.size)=true:=by kernel_rfl
 intro t q;have:=List.all_eq_true.1 h t q;simpa using this
theorem Xf {aa:Ab.CallF}(ac:Ab.CallOk Tryz.prog aa){l:List Ab.SumI}(h:YL aa l=true)(ab:(l.all λs=>Ab.entered Tryz.prog s.f)=true):∀s∈l,Ab.SumIOk Tryz.prog tabs s:=λs q=>
 Ab.sumI_ok ac (List.all_eq_true.1 ab s q) (List.all_eq_true.1 h s q)
theorem QGA:∀f,∀s∈QJH f,Ab.SumIOk Tryz.prog tabs s:=λf s q=>by cases q
theorem Qyt:∀s∈Qwr,Ab.SumIOk Tryz.prog tabs s:=Xf Qcs QAh (by kernel_rfl)
theorem Qyu:∀s∈Qws,Ab.SumIOk Tryz.prog tabs s:=Xf Qcs QAi (by kernel_rfl)
theorem Qyv:∀s∈Qwt,Ab.SumIOk Tryz.prog tabs s:=Xf Qcs QAj (by kernel_rfl)
theorem Qyw:∀s∈Qwu,Ab.SumIOk Tryz.prog tabs s:=Xf Qcs QAk (by kernel_rfl)
theorem QBq:∀f,∀s∈QGq f,Ab.SumIOk Tryz.prog tabs s:=λf s q=>by
 unfold QGq at q;cases h:Nat.beq f 190 with
 | true=>
  rw[h,cond_true]at q;simp only[List.mem_append]at q;rcases q with((q | q) | q) | q
  ·exact Qyt s q
  ·exact Qyu s q
  ·exact Qyv s q
  ·exact Qyw s q
 | false=>
  rw[h,cond_false]at q;exact QGA f s q
theorem QIm:Ab.CallOk Tryz.prog kn1:=Ab.orKnown_ok Qcs (Ab.byFn_ok tabs_ok tabs_low QBq)
theorem Qyx:∀s∈Qwv,Ab.SumIOk Tryz.prog tabs s:=Xf QIm QAl (by kernel_rfl)
theorem QBr:∀f,∀s∈QGr f,Ab.SumIOk Tryz.prog tabs s:=λf s q=>by
 unfold QGr at q;cases h:Nat.beq f 315 with
 | true=>
  rw[h,cond_true]at q;exact Qyx s q
 | false=>
  rw[h,cond_false]at q;exact QBq f s q
theorem Qln:Ab.CallOk Tryz.prog kn2:=Ab.orKnown_ok Qcs (Ab.byFn_ok tabs_ok tabs_low QBr)
theorem Qyy:∀s∈Qww,Ab.SumIOk Tryz.prog tabs s:=Xf Qln QAm (by kernel_rfl)
theorem Qyz:∀s∈Qwx,Ab.SumIOk Tryz.prog tabs s:=Xf Qln QAn (by kernel_rfl)
theorem QyA:∀s∈Qwy,Ab.SumIOk Tryz.prog tabs s:=Xf Qln QAo (by kernel_rfl)
theorem QyB:∀s∈Qwz,Ab.SumIOk Tryz.prog tabs s:=Xf Qln QAp (by kernel_rfl)
theorem QyC:∀s∈QwA,Ab.SumIOk Tryz.prog tabs s:=Xf Qln QAq (by kernel_rfl)
theorem QyD:∀s∈QwB,Ab.SumIOk Tryz.prog tabs s:=Xf Qln QAr (by kernel_rfl)
theorem QyE:∀s∈QwC,Ab.SumIOk Tryz.prog tabs s:=Xf Qln QAs (by kernel_rfl)
theorem QyF:∀s∈QwD,Ab.SumIOk Tryz.prog tabs s:=Xf Qln QAt (by kernel_rfl)
theorem QBs:∀f,∀s∈QGs f,Ab.SumIOk Tryz.prog tabs s:=λf s q=>by
 unfold QGs at q;cases h:Nat.beq f 187 with
 | true=>
  rw[h,cond_true]at q;simp only[List.mem_append]at q;rcases q with((((((q | q) | q) | q) | q) | q) | q) | q
  ·exact Qyy s q
  ·exact Qyz s q
  ·exact QyA s q
  ·exact QyB s q
  ·exact QyC s q
  ·exact QyD s q
  ·exact QyE s q
  ·exact QyF s q
 | false=>
  rw[h,cond_false]at q;exact QBr f s q
theorem QIn:Ab.CallOk Tryz.prog kn3:=Ab.orKnown_ok Qcs (Ab.byFn_ok tabs_ok tabs_low QBs)
theorem all_sums3_0:∀s∈QwE,Ab.SumIOk Tryz.prog tabs s:=Xf QIn QAu (by kernel_rfl)
theorem QBt:∀f,∀s∈QGt f,Ab.SumIOk Tryz.prog tabs s:=λf s q=>by
 unfold QGt at q;cases h:Nat.beq f 97 with
 | true=>
  rw[h,cond_true]at q;exact all_sums3_0 s q
 | false=>
  rw[h,cond_false]at q;exact QBs f s q
theorem QIo:Ab.CallOk Tryz.prog kn4:=Ab.orKnown_ok Qcs (Ab.byFn_ok tabs_ok tabs_low QBt)
theorem all_sums4_0:∀s∈QwF,Ab.SumIOk Tryz.prog tabs s:=Xf QIo QAv (by kernel_rfl)
theorem QBu:∀f,∀s∈QGu f,Ab.SumIOk Tryz.prog tabs s:=λf s q=>by
 unfold QGu at q;cases h:Nat.beq f 98 with
 | true=>
  rw[h,cond_true]at q;exact all_sums4_0 s q
 | false=>
  rw[h,cond_false]at q;exact QBt f s q
theorem QIp:Ab.CallOk Tryz.prog kn5:=Ab.orKnown_ok Qcs (Ab.byFn_ok tabs_ok tabs_low QBu)
theorem all_sums5_0:∀s∈QwG,Ab.SumIOk Tryz.prog tabs s:=Xf QIp QAw (by kernel_rfl)
theorem QBv:∀f,∀s∈QGv f,Ab.SumIOk Tryz.prog tabs s:=λf s q=>by
 unfold QGv at q;cases h:Nat.beq f 99 with
 | true=>
  rw[h,cond_true]at q;exact all_sums5_0 s q
 | false=>
  rw[h,cond_false]at q;exact QBu f s q
theorem QIq:Ab.CallOk Tryz.prog kn6:=Ab.orKnown_ok Qcs (Ab.byFn_ok tabs_ok tabs_low QBv)
theorem all_sums6_0:∀s∈QwH,Ab.SumIOk Tryz.prog tabs s:=Xf QIq QAx (by kernel_rfl)
theorem QBw:∀f,∀s∈QGw f,Ab.SumIOk Tryz.prog tabs s:=λf s q=>by
 unfold QGw at q;cases h:Nat.beq f 100 with
 | true=>
  rw[h,cond_true]at q;exact all_sums6_0 s q
 | false=>
  rw[h,cond_false]at q;exact QBv f s q
theorem QIr:Ab.CallOk Tryz.prog kn7:=Ab.orKnown_ok Qcs (Ab.byFn_ok tabs_ok tabs_low QBw)
theorem all_sums7_0:∀s∈QwI,Ab.SumIOk Tryz.prog tabs s:=Xf QIr QAy (by kernel_rfl)
theorem QBx:∀f,∀s∈QGx f,Ab.SumIOk Tryz.prog tabs s:=λf s q=>by
 unfold QGx at q;cases h:Nat.beq f 101 with
 | true=>
  rw[h,cond_true]at q;exact all_sums7_0 s q
 | false=>
  rw[h,cond_false]at q;exact QBw f s q
theorem QIs:Ab.CallOk Tryz.prog kn8:=Ab.orKnown_ok Qcs (Ab.byFn_ok tabs_ok tabs_low QBx)
theorem all_sums8_0:∀s∈QwJ,Ab.SumIOk Tryz.prog tabs s:=Xf QIs QAz (by kernel_rfl)
theorem QBy:∀f,∀s∈QGy f,Ab.SumIOk Tryz.prog tabs s:=λf s q=>by
 unfold QGy at q;cases h:Nat.beq f 102 with
 | true=>
  rw[h,cond_true]at q;exact all_sums8_0 s q
 | false=>
  rw[h,cond_false]at q;exact QBx f s q
theorem QIt:Ab.CallOk Tryz.prog kn9:=Ab.orKnown_ok Qcs (Ab.byFn_ok tabs_ok tabs_low QBy)
theorem all_sums9_0:∀s∈QwK,Ab.SumIOk Tryz.prog tabs s:=Xf QIt QAA (by kernel_rfl)
theorem QyG:∀f,∀s∈QBm f,Ab.SumIOk Tryz.prog tabs s:=λf s q=>by
 unfold QBm at q;cases h:Nat.beq f 91 with
 | true=>
  rw[h,cond_true]at q;exact all_sums9_0 s q
 | false=>
  rw[h,cond_false]at q;exact QBy f s q
theorem QGB:Ab.CallOk Tryz.prog QJI:=Ab.orKnown_ok Qcs (Ab.byFn_ok tabs_ok tabs_low QyG)
theorem all_sums10_0:∀s∈Qtp,Ab.SumIOk Tryz.prog tabs s:=Xf QGB Qyo (by kernel_rfl)
theorem QyH:∀f,∀s∈QBn f,Ab.SumIOk Tryz.prog tabs s:=λf s q=>by
 unfold QBn at q;cases h:Nat.beq f 92 with
 | true=>
  rw[h,cond_true]at q;exact all_sums10_0 s q
 | false=>
  rw[h,cond_false]at q;exact QyG f s q
theorem QGC:Ab.CallOk Tryz.prog QJJ:=Ab.orKnown_ok Qcs (Ab.byFn_ok tabs_ok tabs_low QyH)
theorem all_sums11_0:∀s∈Qtq,Ab.SumIOk Tryz.prog tabs s:=Xf QGC Qyp (by kernel_rfl)
theorem QyI:∀f,∀s∈QBo f,Ab.SumIOk Tryz.prog tabs s:=λf s q=>by
 unfold QBo at q;cases h:Nat.beq f 93 with
 | true=>
  rw[h,cond_true]at q;exact all_sums11_0 s q
 | false=>
  rw[h,cond_false]at q;exact QyH f s q
theorem QGD:Ab.CallOk Tryz.prog QJK:=Ab.orKnown_ok Qcs (Ab.byFn_ok tabs_ok tabs_low QyI)
theorem all_sums12_0:∀s∈Qtr,Ab.SumIOk Tryz.prog tabs s:=Xf QGD Qyq (by kernel_rfl)
theorem QyJ:∀f,∀s∈QBp f,Ab.SumIOk Tryz.prog tabs s:=λf s q=>by
 unfold QBp at q;cases h:Nat.beq f 94 with
 | true=>
  rw[h,cond_true]at q;exact all_sums12_0 s q
 | false=>
  rw[h,cond_false]at q;exact QyI f s q
theorem QGE:Ab.CallOk Tryz.prog QJL:=Ab.orKnown_ok Qcs (Ab.byFn_ok tabs_ok tabs_low QyJ)
theorem all_sums13_0:∀s∈Qts,Ab.SumIOk Tryz.prog tabs s:=Xf QGE Qyr (by kernel_rfl)
theorem QED:∀f,∀s∈QEA f,Ab.SumIOk Tryz.prog tabs s:=λf s q=>by
 unfold QEA at q;cases h:Nat.beq f 95 with
 | true=>
  rw[h,cond_true]at q;exact all_sums13_0 s q
 | false=>
  rw[h,cond_false]at q;exact QyJ f s q
theorem QGF:Ab.CallOk Tryz.prog QJM:=Ab.orKnown_ok Qcs (Ab.byFn_ok tabs_ok tabs_low QED)
theorem all_sums14_0:∀s∈Qyn,Ab.SumIOk Tryz.prog tabs s:=Xf QGF Qys (by kernel_rfl)
end Go.Proofs.YtgepgbbjfhggfaaGreatDoor.tab
namespace Go.Proofs.YtgepgbbjfhggfaaGreatDoor.code
open Go.Ab
theorem Qtt:Kc (QcT tab.tabs) 97 L_alu:=WU tab.tabs_ok tab.tabs_low tab.all_sums3_0 (by kernel_rfl)
theorem Qgp:Kc (QcT tab.tabs) 91 L_alu:=WU tab.tabs_ok tab.tabs_low tab.all_sums9_0 (by kernel_rfl)
theorem Qqe:Kc (QcT tab.tabs) 98 L_unary:=WU tab.tabs_ok tab.tabs_low tab.all_sums4_0 (by kernel_rfl)
theorem Qgq:Kc (QcT tab.tabs) 92 L_unary:=WU tab.tabs_ok tab.tabs_low tab.all_sums10_0 (by kernel_rfl)
theorem Qrw:Kc (QcT tab.tabs) 99 L_flow:=WU tab.tabs_ok tab.tabs_low tab.all_sums5_0 (by kernel_rfl)
theorem Qgr:Kc (QcT tab.tabs) 93 L_flow:=WU tab.tabs_ok tab.tabs_low tab.all_sums11_0 (by kernel_rfl)
theorem Qrx:Kc (QcT tab.tabs) 100 L_bits:=WU tab.tabs_ok tab.tabs_low tab.all_sums6_0 (by kernel_rfl)
theorem Qgs:Kc (QcT tab.tabs) 94 L_bits:=WU tab.tabs_ok tab.tabs_low tab.all_sums12_0 (by kernel_rfl)
theorem Qtu:Kc (QcT tab.tabs) 101 L_sse:=WU tab.tabs_ok tab.tabs_low tab.all_sums7_0 (by kernel_rfl)
theorem Qgt:Kc (QcT tab.tabs) 95 L_sse:=WU tab.tabs_ok tab.tabs_low tab.all_sums13_0 (by kernel_rfl)
theorem Qtv:Kc (QcT tab.tabs) 102 L_avx:=WU tab.tabs_ok tab.tabs_low tab.all_sums8_0 (by kernel_rfl)
theorem Qgu:Kc (QcT tab.tabs) 96 L_avx:=WU tab.tabs_ok tab.tabs_low tab.all_sums14_0 (by kernel_rfl)
def LL:FuncId->List Fm:=λf=>bif Nat.beq f 97 then L_alu else bif Nat.beq f 98 then L_unary else bif Nat.beq f 99 then L_flow else bif Nat.beq f 100 then L_bits else bif Nat.beq f 101 then L_sse else L_avx
theorem QEE:∀x∈lis,Kc (QcT tab.tabs) x.2.2 (LL x.2.2):=by
 intro x q;simp only[lis,LK,Ns,NN]at q;rcases q with rfl | rfl | rfl | rfl | rfl | rfl
 ·exact Qtt
 ·exact Qqe
 ·exact Qrw
 ·exact Qrx
 ·exact Qtu
 ·exact Qtv
def QwM:List Fm:=L_alu++(L_unary++(L_flow++(L_bits++(L_sse++L_avx))))
theorem QyK {L:List Fm}{a b op:Int}(h:(L.all λf=>decide (a<=f.op)&&decide (f.op<=b))=true)(aa:op<a∨op>b):L.filter (λf=>f.op==op)=[]:=by
 rw[List.filter_eq_nil_iff];intro f q;have:=Li.1 h f q;simp only[Lm,Lv]at this;simp only[L0];omega
theorem rng:(L_alu.all λf=>decide (1<=f.op)&&decide (f.op<=16))=true∧(L_unary.all λf=>decide (16<=f.op)&&decide (f.op<=47))=true∧(L_flow.all λf=>decide (48<=f.op)&&decide (f.op<=115))=true∧(L_bits.all λf=>decide (116<=f.op)&&decide (f.op<=135))=true∧(L_sse.all λf=>decide (136<=f.op)&&decide (f.op<=262))=true∧(L_avx.all λf=>decide (263<=f.op)&&decide (f.op<=322))=true:=
 ⟨by kernel_rfl,by kernel_rfl,by kernel_rfl,by kernel_rfl,by kernel_rfl,by kernel_rfl⟩
theorem QIu (op:Int):Qto LL op op (λf=>f.op==op) lis=QwM.filter (λf=>f.op==op):=by
 have key:∀ (a b:Int) (L:List Fm),(L.all λf=>decide (a<=f.op)&&decide (f.op<=b))=true->(bif decide (op<a)||decide (op>b) then[] else L.filter λf=>f.op==op)=L.filter λf=>f.op==op:=λa b L h=>by
  cases q:decide (op<a)||decide (op>b) with
  | false=>rfl
  | true=>
   simp only[Nw,Lv]at q;rw[QyK h q];rfl
 obtain⟨r1,r2,r3,r4,r5,aa⟩:=rng;have e:Qto LL op op (λf=>f.op==op) lis=(bif decide (op<1)||decide (op>16) then[] else L_alu.filter λf=>f.op==op)++((bif decide (op<16)||decide (op>47) then[] else L_unary.filter λf=>f.op==op)++((bif decide (op<48)||decide (op>115) then[] else L_flow.filter λf=>f.op==op)++((bif decide (op<116)||decide (op>135) then[] else L_bits.filter λf=>f.op==op)++((bif decide (op<136)||decide (op>262) then[] else L_sse.filter λf=>f.op==op)++((bif decide (op<263)||decide (op>322) then[] else L_avx.filter λf=>f.op==op)++[]))))):=rfl;rw[e,key _ _ _ r1,key _ _ _ r2,key _ _ _ r3,key _ _ _ r4,key _ _ _ r5,key _ _ _ aa,Na];simp only[QwM,Re]
theorem QyL:QwM.length=834:=by kernel_rfl
theorem QBz:(JU prog.globals.size tab.tabs).Wf:=λid q=>by
 cases ac:(JU prog.globals.size tab.tabs).get id with
 | none=>rfl
 | some b=>
  obtain⟨t,aa,ab,_⟩:=JE ac;have:=tab.tabs_low t aa;have q:prog.globals.size<=id:=q;subst ab;exact absurd this (by show ¬t.id<prog.globals.size;omega)
theorem QIv:QcT tab.tabs (JU prog.globals.size tab.tabs):=by unfold QcT;kernel_rfl
theorem QJP (op:Int)(H:Qa)(q:QcT tab.tabs H):Qe prog 15 [.int .i64 op] H λu H'=>QkX H H' u (QwM.filter λf=>f.op==op):=by
 have:=QAB Qlm LL QEE op H q;rwa [QIu]at this
theorem QkX.short {H H':Qa}{u:Value}{p:Fm->Bool}{ys:List Lf}(h:ys.map (·.f)=QwM.filter p):ys.length<=834:=by
 have q:=congrArg List.length h;have aa:=R7 p QwM;rw[QyL]at aa;simp only[Nn]at q;omega
def Qum (op:Int):List Fm:=QwM.filter λf=>f.op==op
theorem ex1:(Qrt (Qum 1) 1 [exA,exB] 0==([131,192,5],0))=true:=by kernel_rfl
theorem ex2:(Qrt (Qum 54) 54 [exC] 0==([235,5],0))=true:=by kernel_rfl
theorem ex3:(Qrt (Qum 54) 54 [exC] 2==([233,5,0,0,0],0))=true:=by kernel_rfl
theorem ex4:((QiG (Qum 50) 50 []).2==0&&(QiG (Qum 50) 50 []).1.length==2)=true:=by kernel_rfl
theorem QKu (H:Qa)(aa:QcT tab.tabs H):Qe prog 7 [] H λu H'=>u=.bool true∧Ext H H':=by
 have q:=ex4;rw[Lm,L0,L0]at q;exact Qyl (T:=QcT tab.tabs) (L:=Qum) Qlm (λop H h=>QJP op H h) (eq_of_beq ex1) (eq_of_beq ex2) (eq_of_beq ex3) (W:=(QiG (Qum 50) 50 []).1) (Prod.ext rfl q.1) q.2 H aa
theorem QGI:(QwM.all λf=>QIw f&&(Qec f==0))=true:=by kernel_rfl
theorem QIA (op:Int):∀f∈Qum op,Chk f∧Qec f=0:=λf q=>by
 have:=Li.1 QGI f (Bo.1 q).1;rw[Lm]at this;exact⟨QGG this.1,eq_of_beq this.2⟩
theorem Qve {l:List Fm}(h:l.isEmpty=false):l≠[]:=λe=>by rw[e]at h;cases h
theorem QJS (H:Qa)(q:QcT tab.tabs H):Qe prog 59 [] H λu H'=>QkX H H' u QwM:=
 Qlo Qlm H q Qgp Qgq Qgr Qgs Qgt Qgu
  (Qve (by kernel_rfl)) (Qve (by kernel_rfl)) (Qve (by kernel_rfl)) (Qve (by kernel_rfl)) (Qve (by kernel_rfl)) (Qve (by kernel_rfl))
theorem QIB (op:Int)(H:Qa)(q:QcT tab.tabs H):Qe prog 33 [.int .i64 op] H λu H'=>QkX H H' u (Qum op):=Qny QJS op H q
end Go.Proofs.YtgepgbbjfhggfaaGreatDoor.code
