/- linotypekit.SameInst and SameArgs, of any two lists of operands. -/
import Derived.Test.YtdjkkoacinpdeaaGreatDoorLibI
import Derived.Test.YtdjkkoacinpdeaaGreatDoorC6One
set_option linter.unusedVariables false
set_option linter.unusedSimpArgs false
set_option maxRecDepth 100000
set_option maxHeartbeats 4000000
namespace Go.Proofs.YtdjkkoacinpdeaaGreatDoor.code
open Go.Ab
theorem Qfi {P:Program} {f:Nat} {t:TypeId} {fs:Array Field} {xs ys:Array Value} (h:P.underlying t=some (.struct fs)) (hs:P.stoodInHeld t=false):aeq P (f+1) t (.agg xs) (.agg ys)=W3 P (aeq P f) fs.toList xs ys:=by
 unfold aeq
 rw[h]
 simp[hs]
theorem Qcx {P:Program} {f:Nat} {t:TypeId} {k:IntKind} {a b:Int} (h:P.underlying t=some (.int k)):aeq P (f+1) t (.int k a) (.int k b)=some (a==b):=by
 unfold aeq
 rw[h]
 simp
theorem Y7 {P:Program} {eq:TypeId→Value→Value→Option Bool} {fd:Field} {fs:List Field} {xs ys:Array Value} {a b:Value} {r s:Bool} (hn:(fd.name == "_")=false) (ha:apart P fd.type xs fd.offset=some a) (hb:apart P fd.type ys fd.offset=some b) (he:eq fd.type a b=some r) (hr:W3 P eq fs xs ys=some s):
  W3 P eq (fd::fs) xs ys=some (r&&s):=by
 have hn':¬fd.name = "_" := by simpa using hn
 show(if fd.name = "_" then W3 P eq fs xs ys else match apart P fd.type xs fd.offset,apart P fd.type ys fd.offset with
  | some a,some b=>match eq fd.type a b with
   | some true=>W3 P eq fs xs ys
   | r=>r
  | _,_=>none)=_
 rw[if_neg hn',ha,hb]
 simp only[he]
 cases r
 ·rfl
 ·rw[hr];rfl
theorem QiQ {P:Program} {eq:TypeId→Value→Value→Option Bool} {xs ys:Array Value}:W3 P eq [] xs ys=some true:=rfl
theorem QiR:prog.underlying 3=some (.int .i64):=by kernel_rfl
theorem Qtq:prog.underlying QI=some (.struct #[⟨ "Class",3,0,false, "", "",0⟩,⟨ "N",3,1,false, "", "",8⟩]):=by kernel_rfl
theorem Qtr:prog.underlying Qg=some (.struct #[⟨ "Base",QI,0,false, "", "",0⟩,⟨ "Index",QI,2,false, "", "",16⟩,⟨ "Scale",3,4,false, "", "",32⟩,⟨ "Disp",3,5,false, "", "",40⟩,⟨ "Size",3,6,false, "", "",48⟩]):=by kernel_rfl
theorem Qts:prog.underlying Qc=some (.struct #[⟨ "Kind",3,0,false, "", "",0⟩,⟨ "R",QI,1,false, "", "",8⟩,⟨ "M",Qg,3,false, "", "",24⟩,⟨ "N",3,10,false, "", "",80⟩]):=by kernel_rfl
theorem Qk3 (f:Nat) (a b c d:Int):aeq prog (f+2) QI (.agg #[.int .i64 a,.int .i64 b]) (.agg #[.int .i64 c,.int .i64 d])=some ((a==c)&&((b==d)&&true)):=by
 rw[Qfi Qtq (by kernel_rfl)]
 exact Y7 (by rfl) (a:=.int .i64 a) (b:=.int .i64 c) (by kernel_rfl) (by kernel_rfl) (Qcx QiR) (Y7 (by rfl) (a:=.int .i64 b) (b:=.int .i64 d) (by kernel_rfl) (by kernel_rfl) (Qcx QiR) QiQ)
theorem Qr4 (f:Nat) (a1 a2 a3 a4 a5 a6 a7 b1 b2 b3 b4 b5 b6 b7:Int):aeq prog (f+3) Qg (.agg #[.int .i64 a1,.int .i64 a2,.int .i64 a3,.int .i64 a4,.int .i64 a5,.int .i64 a6,.int .i64 a7]) (.agg #[.int .i64 b1,.int .i64 b2,.int .i64 b3,.int .i64 b4,.int .i64 b5,.int .i64 b6,.int .i64 b7]) =
  some (((a1==b1)&&((a2==b2)&&true))&&(((a3==b3)&&((a4==b4)&&true))&&((a5==b5)&&((a6==b6)&&((a7==b7)&&true))))):=by
 rw[Qfi Qtr (by kernel_rfl)]
 exact Y7 (by rfl) (a:=.agg #[.int .i64 a1,.int .i64 a2]) (b:=.agg #[.int .i64 b1,.int .i64 b2]) (by kernel_rfl) (by kernel_rfl) (Qk3 f _ _ _ _)
  (Y7 (by rfl) (a:=.agg #[.int .i64 a3,.int .i64 a4]) (b:=.agg #[.int .i64 b3,.int .i64 b4]) (by kernel_rfl) (by kernel_rfl) (Qk3 f _ _ _ _)
  (Y7 (by rfl) (a:=.int .i64 a5) (b:=.int .i64 b5) (by kernel_rfl) (by kernel_rfl) (Qcx QiR)
  (Y7 (by rfl) (a:=.int .i64 a6) (b:=.int .i64 b6) (by kernel_rfl) (by kernel_rfl) (Qcx QiR)
  (Y7 (by rfl) (a:=.int .i64 a7) (b:=.int .i64 b7) (by kernel_rfl) (by kernel_rfl) (Qcx QiR) QiQ))))
theorem Qr5 (f:Nat) (a b:Ar):aeq prog (f+4) Qc (.agg a.cells.toArray) (.agg b.cells.toArray)=some (decide (a=b)):=by
 obtain⟨k,⟨rc,rn⟩,⟨⟨bc,bn⟩,⟨ic,iN⟩,sc,dd,sz⟩,n⟩:=a
 obtain⟨k',⟨rc',rn'⟩,⟨⟨bc',bn'⟩,⟨ic',iN'⟩,sc',dd',sz'⟩,n'⟩:=b
 have e:=Qfi (f:=f+3) (xs:=#[.int .i64 k,.int .i64 rc,.int .i64 rn,.int .i64 bc,.int .i64 bn,.int .i64 ic,.int .i64 iN,.int .i64 sc,.int .i64 dd,.int .i64 sz,.int .i64 n]) (ys:=#[.int .i64 k',.int .i64 rc',.int .i64 rn',.int .i64 bc',.int .i64 bn',.int .i64 ic',.int .i64 iN',.int .i64 sc',.int .i64 dd',.int .i64 sz',.int .i64 n']) Qts (by kernel_rfl)
 have e2:=Y7 (P:=prog) (eq:=aeq prog (f+3)) (fd:=⟨ "Kind",3,0,false, "", "",0⟩) (by rfl) (a:=.int .i64 k) (b:=.int .i64 k') (xs:=#[.int .i64 k,.int .i64 rc,.int .i64 rn,.int .i64 bc,.int .i64 bn,.int .i64 ic,.int .i64 iN,.int .i64 sc,.int .i64 dd,.int .i64 sz,.int .i64 n]) (ys:=#[.int .i64 k',.int .i64 rc',.int .i64 rn',.int .i64 bc',.int .i64 bn',.int .i64 ic',.int .i64 iN',.int .i64 sc',.int .i64 dd',.int .i64 sz',.int .i64 n']) (by kernel_rfl) (by kernel_rfl) (Qcx QiR)
  (Y7 (fd:=⟨ "R",QI,1,false, "", "",8⟩) (by rfl) (a:=.agg #[.int .i64 rc,.int .i64 rn]) (b:=.agg #[.int .i64 rc',.int .i64 rn']) (by kernel_rfl) (by kernel_rfl) (Qk3 (f+1) _ _ _ _)
  (Y7 (fd:=⟨ "M",Qg,3,false, "", "",24⟩) (by rfl) (a:=.agg #[.int .i64 bc,.int .i64 bn,.int .i64 ic,.int .i64 iN,.int .i64 sc,.int .i64 dd,.int .i64 sz]) (b:=.agg #[.int .i64 bc',.int .i64 bn',.int .i64 ic',.int .i64 iN',.int .i64 sc',.int .i64 dd',.int .i64 sz']) (by kernel_rfl) (by kernel_rfl) (Qr4 f _ _ _ _ _ _ _ _ _ _ _ _ _ _)
  (Y7 (fd:=⟨ "N",3,10,false, "", "",80⟩) (by rfl) (a:=.int .i64 n) (b:=.int .i64 n') (by kernel_rfl) (by kernel_rfl) (Qcx QiR) QiQ)))
 refine(e.trans e2).trans ?_
 congr 1
 rw[Bool.eq_iff_iff]
 simp[and_assoc]
theorem Qtt {A:Env} {H:Qa} {k:Value→Qa→Prop} {x y:Operand} {t':TypeId} (a b:Ar) (hc:(QcX x||QcX y)=false) (hx:ev A x=.agg a.cells.toArray) (hy:ev A y=.agg b.cells.toArray):
  pr prog (.gen (.binOp .neq Qc x y t')) false A H k=k (.bool (!decide (a=b))) H:=by
 have hg:YM prog false Qc (.agg a.cells.toArray) (.agg b.cells.toArray)=true:=by
  have h:prog.eqGuardType prog.depth Qc=false:=by kernel_rfl
  simp[YM,Qej,QiV,h]
 have e:rop prog (.gen (.binOp .neq Qc x y t')) A H=some (.bool (!decide (a=b)),H):=by
  simp only[rop,aop,VV,QiX,hx,hy,hc,Qfr,KM,hg,Bool.and_self,if_true,Qr5 16]
  rfl
 refine(Wx _).trans ?_
 rw[e,Qx]
theorem Qnm (va vb:Value) (xs ys:List Ar) (H:Qa) (ha:QY H va xs) (hb:QY H vb ys) (hlx:xs.length≤1000000) (hly:ys.length≤1000000):Qf prog Zk [va,vb] H fun u H'=>u=.bool (decide (xs=ys))∧H'=H:=by
 refine QbO fun hw=>?_
 obtain⟨aa,acap,rfl,hsa⟩:=ha
 obtain⟨ba,bcap,rfl,hsb⟩:=hb
 simp only[KG,sxA,sxB,Nat.reduceBEq,Nat.reduceEqDiff,reduceCtorEq,mxA,mxB,Nat.reduceAdd,reduceIte,Nat.reduceLeDiff,splice]
 by_cases hne:xs.length=ys.length
 ·have e0:((xs.length:Int)==(ys.length:Int))=true:=by simp[hne]
  simp only[e0,sxA,sxB,Nat.reduceBEq,Nat.reduceEqDiff,reduceCtorEq,mxA,mxB,Nat.reduceAdd,reduceIte,Nat.reduceLeDiff,splice]
  refine Wq (fun m A' H'=>∃i:Nat,i≤xs.length∧m=xs.length - i∧H'=H∧(∀j,j<i→xs[j]? = ys[j]?)∧A' 0=.slice aa xs.length acap∧A' 1=.slice ba ys.length bcap∧A' 5=.int .i64 i) xs.length ?_ ?_
  ·refine⟨0,Nat.zero_le _,by omega,rfl,fun j h=>by omega,?_,?_,?_⟩
   all_goals simp only[uxA,uxB,Nat.reduceBEq]
   rfl
  ·rintro m A' H' ⟨i,hi,rfl,hEq,hall,r0,r1,r5⟩
   subst hEq
   simp only[sxA,sxB,Nat.reduceBEq,Nat.reduceEqDiff,reduceCtorEq,mxA,mxB,Nat.reduceAdd,reduceIte,Nat.reduceLeDiff,splice,r0,r1,r5]
   refine Qe (fun h2=>?_) (fun h2=>?_)
   ·have h2:i<xs.length:=by have:=of_decide_eq_true h2;omega
    obtain⟨b1,e1,ro1,rfl,hb1⟩:=hsa (by omega)
    obtain⟨b2,e2,ro2,rfl,hb2⟩:=hsb (by omega)
    have c1:(0:Int)≤i∧(i:Int)<xs.length:=by omega
    have c2:(0:Int)≤i∧(i:Int)<ys.length:=by omega
    have c3:(i:Int).toNat=i:=by omega
    have c4:i * 11+11≤xs.length * 11:=by omega
    have c5:i * 11+11≤ys.length * 11:=by omega
    have ei:IntKind.i64.wrap ((i:Int)+1)=((i+1:Nat):Int):=by rw[w64 (by unfold I64;omega)];omega
    have h2':i<ys.length:=by omega
    have p1:=List.getElem?_eq_getElem h2
    have p2:=List.getElem?_eq_getElem h2'
    have d1:=Y6 xs i _ p1
    have d2:=Y6 ys i _ p2
    have n1:=QV xs
    have n2:=QV ys
    generalize xs[i]=x at *
    generalize ys[i]=y at *
    have a1:(x.cells.all fun v=>v.oneCell')=true:=rfl
    have a2:(y.cells.all fun v=>v.oneCell')=true:=rfl
    simp only[sxA,sxB,Nat.reduceBEq,Nat.reduceEqDiff,reduceCtorEq,mxA,mxB,Nat.reduceAdd,reduceIte,Nat.reduceLeDiff,splice,r0,r1,r5,c1,c2,c3,c4,c5,hb1,hb2,d1,d2,n1,n2,a1,a2,We]
    rw[Qtt x y rfl (by simp only[uxA,uxB,Nat.reduceBEq]) (by simp only[uxA,uxB,Nat.reduceBEq])]
    by_cases h3:x=y
    ·have e3:decide (x=y)=true:=decide_eq_true h3
     simp only[sxA,sxB,Nat.reduceBEq,Nat.reduceEqDiff,reduceCtorEq,mxA,mxB,Nat.reduceAdd,reduceIte,Nat.reduceLeDiff,splice,e3,r5,ei]
     refine⟨xs.length - (i+1),by omega,i+1,by omega,rfl,rfl,fun j hj=>?_,?_,?_,?_⟩
     ·rcases Nat.lt_or_ge j i with h | h
      ·exact hall j h
      ·rw[show j=i by omega,p1,p2,h3]
     all_goals simp only[uxA,uxB,Nat.reduceBEq,r0,r1]
    ·have e3:decide (x=y)=false:=decide_eq_false h3
     simp only[sxA,sxB,Nat.reduceBEq,Nat.reduceEqDiff,reduceCtorEq,mxA,mxB,Nat.reduceAdd,reduceIte,Nat.reduceLeDiff,splice,e3,YI]
     have h4:xs≠ys:=fun h=>by
      rw[h,p2]at p1
      exact h3 (Option.some.inj p1).symm
     exact .mk (Nat.le_refl _) ⟨by rw[decide_eq_false h4],rfl⟩
   ·have h2:i=xs.length:=by have:=of_decide_eq_false h2;omega
    subst h2
    simp only[sxA,sxB,Nat.reduceBEq,Nat.reduceEqDiff,reduceCtorEq,mxA,mxB,Nat.reduceAdd,reduceIte,Nat.reduceLeDiff,splice,YI]
    have heq:xs=ys:=by
     refine List.ext_getElem? fun i=>?_
     by_cases h1:i<xs.length
     ·exact hall i h1
     ·rw[List.getElem?_eq_none (by omega),List.getElem?_eq_none (by omega)]
    exact .mk (Nat.le_refl _) ⟨by rw[decide_eq_true heq],rfl⟩
 ·have e0:((xs.length:Int)==(ys.length:Int))=false:=by simp;omega
  simp only[e0,sxA,sxB,Nat.reduceBEq,Nat.reduceEqDiff,reduceCtorEq,mxA,mxB,Nat.reduceAdd,reduceIte,Nat.reduceLeDiff,splice,YI]
  exact .mk (Nat.le_refl _) ⟨by rw[decide_eq_false (fun h=>hne (by rw[h]))],rfl⟩
theorem Qnn (o p:Int) (va vb:Value) (xs ys:List Ar) (H:Qa) (ha:QY H va xs) (hb:QY H vb ys) (hlx:xs.length≤1000000) (hly:ys.length≤1000000):Qf prog Zh [.agg #[.int .i64 o,va],.agg #[.int .i64 p,vb]] H fun u H'=>u=.bool ((o==p)&&decide (xs=ys))∧∃k,H'=H.up k:=by
 refine QbN fun hw=>?_
 have hx:Ext H ((H.push (.cells [.int .i64 o,va] Qb false)).push (.cells [.int .i64 p,vb] Qb false)):=((Ext.refl H).push _).push _
 have ha2:=ha.ext hw hx
 have hb2:=hb.ext hw hx
 have q:=Qnm va vb xs ys _ ha2 hb2 hlx hly
 obtain⟨aa,acap,rfl,hsa⟩:=ha
 obtain⟨ba,bcap,rfl,hsb⟩:=hb
 simp only[KF,sxA,sxB,Nat.reduceBEq,Nat.reduceEqDiff,reduceCtorEq,mxA,mxB,Nat.reduceAdd,reduceIte,Nat.reduceLeDiff,splice,Xu]
 cases h1:o==p
 ·simp only[sxA,sxB,Nat.reduceBEq,Nat.reduceEqDiff,reduceCtorEq,mxA,mxB,Nat.reduceAdd,reduceIte,Nat.reduceLeDiff,splice,Xu]
  exact .ext hw hx ⟨rfl,_,rfl⟩
 ·simp only[sxA,sxB,Nat.reduceBEq,Nat.reduceEqDiff,reduceCtorEq,mxA,mxB,Nat.reduceAdd,reduceIte,Nat.reduceLeDiff,splice,Xu]
  refine q.thenW ?_
  rintro _ _ hn hw2 ⟨rfl,rfl⟩
  simp only[sxA,sxB,Nat.reduceBEq,Nat.reduceEqDiff,reduceCtorEq,mxA,mxB,Nat.reduceAdd,reduceIte,Nat.reduceLeDiff,splice,Xu]
  exact .ext hw hx ⟨by simp,_,rfl⟩
end Go.Proofs.YtdjkkoacinpdeaaGreatDoor.code
