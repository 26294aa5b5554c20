/- linotypekit.SameInst and SameArgs, of any two lists of operands. -/
import Derived.Test.YtgepgbbjfhggfaaGreatDoorLibI
import Derived.Test.YtgepgbbjfhggfaaGreatDoorC6One
set_option linter.unusedVariables false
set_option linter.unusedSimpArgs false
set_option maxRecDepth 100000
set_option maxHeartbeats 4000000
namespace Go.Proofs.YtgepgbbjfhggfaaGreatDoor.code
open Go.Ab
theorem Qno {P:Program}{f:Nat}{t:TypeId}{fs:Array Field}{xs ys:Array Value}(h:P.underlying t=some (.struct fs))(hs:P.stoodInHeld t=false):aeq P (f+1) t (.agg xs) (.agg ys)=XY P (aeq P f) fs.toList xs ys:=by
 unfold aeq;rw[h];simp[hs]
theorem Qiy {P:Program}{f:Nat}{t:TypeId}{k:IntKind}{a b:Int}(h:P.underlying t=some (.int k)):aeq P (f+1) t (.int k a) (.int k b)=some (a==b):=by
 unfold aeq;rw[h];simp
theorem Jz {P:Program}{eq:TypeId->Value->Value->Option Bool}{fd:Field}{fs:List Field}{xs ys:Array Value}{a b:Value}{r s:Bool}(hn:(fd.name == "_")=false)(ha:QcS P fd.type xs fd.offset=some a)(hb:QcS P fd.type ys fd.offset=some b)(he:eq fd.type a b=some r)(hr:XY P eq fs xs ys=some s):
  XY P eq (fd::fs) xs ys=some (r&&s):=by
 have hn':¬fd.name = "_" := by simpa using hn
 show(if fd.name = "_" then XY P eq fs xs ys else match QcS P fd.type xs fd.offset,QcS P fd.type ys fd.offset with
  | some a,some b=>match eq fd.type a b with
   | some true=>XY P eq fs xs ys
   | r=>r
  | _,_=>none)=_
 rw[Le hn',ha,hb];simp only[he];cases r
 ·rfl
 ·rw[hr];rfl
theorem Qs4 {P:Program}{eq:TypeId->Value->Value->Option Bool}{xs ys:Array Value}:XY P eq [] xs ys=some true:=rfl
theorem Qs5:prog.underlying 3=some (.int .i64):=by kernel_rfl
theorem QHP:prog.underlying 54=some (.struct #[⟨ "Class",3,0,false, "", "",0⟩,⟨ "N",3,1,false, "", "",8⟩]):=by kernel_rfl
theorem QHQ:prog.underlying 56=some (.struct #[⟨ "Base",54,0,false, "", "",0⟩,⟨ "Index",54,2,false, "", "",16⟩,⟨ "Scale",3,4,false, "", "",32⟩,⟨ "Disp",3,5,false, "", "",40⟩,⟨ "Size",3,6,false, "", "",48⟩]):=by kernel_rfl
theorem QHR:prog.underlying 58=some (.struct #[⟨ "Kind",3,0,false, "", "",0⟩,⟨ "R",54,1,false, "", "",8⟩,⟨ "M",56,3,false, "", "",24⟩,⟨ "N",3,10,false, "", "",80⟩]):=by kernel_rfl
theorem Qv7 (f:Nat)(a b c d:Int):aeq prog (f+2) 54 (.agg #[.int .i64 a,.int .i64 b]) (.agg #[.int .i64 c,.int .i64 d])=some ((a==c)&&((b==d)&&true)):=by
 rw[Qno QHP (by kernel_rfl)];exact Jz (by rfl) (a:=.int .i64 a) (b:=.int .i64 c) (by kernel_rfl) (by kernel_rfl) (Qiy Qs5) (Jz (by rfl) (a:=.int .i64 b) (b:=.int .i64 d) (by kernel_rfl) (by kernel_rfl) (Qiy Qs5) Qs4)
theorem QFU (f:Nat)(a1 a2 a3 a4 a5 a6 a7 b1 b2 b3 b4 b5 b6 b7:Int):aeq prog (f+3) 56 (.agg #[.int .i64 a1,.int .i64 a2,.int .i64 a3,.int .i64 a4,.int .i64 a5,.int .i64 a6,.int .i64 a7]) (.agg #[.int .i64 b1,.int .i64 b2,.int .i64 b3,.int .i64 b4,.int .i64 b5,.int .i64 b6,.int .i64 b7]) =
  some (((a1==b1)&&((a2==b2)&&true))&&(((a3==b3)&&((a4==b4)&&true))&&((a5==b5)&&((a6==b6)&&((a7==b7)&&true))))):=by
 rw[Qno QHQ (by kernel_rfl)];exact Jz (by rfl) (a:=.agg #[.int .i64 a1,.int .i64 a2]) (b:=.agg #[.int .i64 b1,.int .i64 b2]) (by kernel_rfl) (by kernel_rfl) (Qv7 f _ _ _ _)
  (Jz (by rfl) (a:=.agg #[.int .i64 a3,.int .i64 a4]) (b:=.agg #[.int .i64 b3,.int .i64 b4]) (by kernel_rfl) (by kernel_rfl) (Qv7 f _ _ _ _)
  (Jz (by rfl) (a:=.int .i64 a5) (b:=.int .i64 b5) (by kernel_rfl) (by kernel_rfl) (Qiy Qs5)
  (Jz (by rfl) (a:=.int .i64 a6) (b:=.int .i64 b6) (by kernel_rfl) (by kernel_rfl) (Qiy Qs5)
  (Jz (by rfl) (a:=.int .i64 a7) (b:=.int .i64 b7) (by kernel_rfl) (by kernel_rfl) (Qiy Qs5) Qs4))))
theorem QFV (f:Nat)(a b:Ar):aeq prog (f+4) 58 (.agg a.cells.toArray) (.agg b.cells.toArray)=some (decide (a=b)):=by
 obtain⟨k,⟨rc,rn⟩,⟨⟨bc,bn⟩,⟨ic,iN⟩,sc,dd,sz⟩,n⟩:=a;obtain⟨k',⟨rc',rn'⟩,⟨⟨bc',bn'⟩,⟨ic',iN'⟩,sc',dd',sz'⟩,n'⟩:=b;have e:=Qno (f:=f+3) (xs:=#[.int .i64 k,.int .i64 rc,.int .i64 rn,.int .i64 bc,.int .i64 bn,.int .i64 ic,.int .i64 iN,.int .i64 sc,.int .i64 dd,.int .i64 sz,.int .i64 n]) (ys:=#[.int .i64 k',.int .i64 rc',.int .i64 rn',.int .i64 bc',.int .i64 bn',.int .i64 ic',.int .i64 iN',.int .i64 sc',.int .i64 dd',.int .i64 sz',.int .i64 n']) QHR (by kernel_rfl)
 have e2:=Jz (P:=prog) (eq:=aeq prog (f+3)) (fd:=⟨ "Kind",3,0,false, "", "",0⟩) (by rfl) (a:=.int .i64 k) (b:=.int .i64 k') (xs:=#[.int .i64 k,.int .i64 rc,.int .i64 rn,.int .i64 bc,.int .i64 bn,.int .i64 ic,.int .i64 iN,.int .i64 sc,.int .i64 dd,.int .i64 sz,.int .i64 n]) (ys:=#[.int .i64 k',.int .i64 rc',.int .i64 rn',.int .i64 bc',.int .i64 bn',.int .i64 ic',.int .i64 iN',.int .i64 sc',.int .i64 dd',.int .i64 sz',.int .i64 n']) (by kernel_rfl) (by kernel_rfl) (Qiy Qs5)
  (Jz (fd:=⟨ "R",54,1,false, "", "",8⟩) (by rfl) (a:=.agg #[.int .i64 rc,.int .i64 rn]) (b:=.agg #[.int .i64 rc',.int .i64 rn']) (by kernel_rfl) (by kernel_rfl) (Qv7 (f+1) _ _ _ _)
  (Jz (fd:=⟨ "M",56,3,false, "", "",24⟩) (by rfl) (a:=.agg #[.int .i64 bc,.int .i64 bn,.int .i64 ic,.int .i64 iN,.int .i64 sc,.int .i64 dd,.int .i64 sz]) (b:=.agg #[.int .i64 bc',.int .i64 bn',.int .i64 ic',.int .i64 iN',.int .i64 sc',.int .i64 dd',.int .i64 sz']) (by kernel_rfl) (by kernel_rfl) (QFU f _ _ _ _ _ _ _ _ _ _ _ _ _ _)
  (Jz (fd:=⟨ "N",3,10,false, "", "",80⟩) (by rfl) (a:=.int .i64 n) (b:=.int .i64 n') (by kernel_rfl) (by kernel_rfl) (Qiy Qs5) Qs4)))
 refine(e.trans e2).trans ?_;congr 1;rw[Ni];simp[and_assoc]
theorem QHS {A:Env}{H:Qa}{k:Value->Qa->Prop}{x y:Operand}{t':TypeId}(a b:Ar)(hc:(QjW x||QjW y)=false)(hx:ev A x=.agg a.cells.toArray)(hy:ev A y=.agg b.cells.toArray):
  pr prog (.gen (.binOp .neq 58 x y t')) false A H k=k (.bool (!decide (a=b))) H:=by
 have hg:JF prog false 58 (.agg a.cells.toArray) (.agg b.cells.toArray)=true:=by
  have h:prog.eqGuardType prog.depth 58=false:=by kernel_rfl
  simp[JF,Qmw,Qu0,h]
 have e:rop prog (.gen (.binOp .neq 58 x y t')) A H=some (.bool (!decide (a=b)),H):=by
  simp only[rop,aop,Qfe,Qu2,hx,hy,hc,Qqc,Qcs,hg,Bj,N3,QFV 16];rfl
 refine(W2 _).trans ?_;rw[e,QM]
theorem QzT (va vb:Value)(xs ys:List Ar)(H:Qa)(ha:Qv H va xs)(hb:Qv H vb ys)(hlx:xs.length<=1000000)(hly:ys.length<=1000000):Qe prog 35 [va,vb] H λu H'=>u=.bool (decide (xs=ys))∧H'=H:=by
 refine QgB λhw=>?_;obtain⟨aa,acap,rfl,hsa⟩:=ha;obtain⟨ba,bcap,rfl,hsb⟩:=hb;simp only[V4,Qb,simprocAttr]
 by_cases hne:xs.length=ys.length
 ·have e0:((xs.length:Int)==(ys.length:Int))=true:=by simp[hne]
  simp only[e0,Qb,simprocAttr];refine Qo (λm A' H'=>∃i:Nat,i<=xs.length∧m=xs.length - i∧H'=H∧(∀j,j<i->xs[j]? = ys[j]?)∧A' 0=.slice aa xs.length acap∧A' 1=.slice ba ys.length bcap∧A' 5=.int .i64 i) xs.length ?_ ?_
  ·refine⟨0,L7 _,by omega,rfl,λj h=>by omega,?_,?_,?_⟩
   all_goals simp only[uxA,uxB,Nat.reduceBEq]
   rfl
  ·rintro m A' H' ⟨i,hi,rfl,hEq,hall,r0,r1,r5⟩;subst hEq;simp only[Qb,simprocAttr,r0,r1,r5];refine Qf (λh2=>?_) (λh2=>?_)
   ·have h2:i<xs.length:=by have:=Lg h2;omega
    obtain⟨b1,e1,ro1,rfl,hb1⟩:=hsa (by omega);obtain⟨b2,e2,ro2,rfl,hb2⟩:=hsb (by omega);have c1:(0:Int)<=i∧(i:Int)<xs.length:=by omega
    have c2:(0:Int)<=i∧(i:Int)<ys.length:=by omega
    have c3:(i:Int).toNat=i:=by omega
    have c4:i * 11+11<=xs.length * 11:=by omega
    have c5:i * 11+11<=ys.length * 11:=by omega
    have ei:IntKind.i64.wrap ((i:Int)+1)=((i+1:Nat):Int):=by rw[w64 (by unfold I64;omega)];omega
    have h2':i<ys.length:=by omega
    have p1:=La h2;have p2:=La h2';have d1:=WI xs i _ p1;have d2:=WI ys i _ p2;have n1:=QJ xs;have n2:=QJ ys;generalize xs[i]=x at *;generalize ys[i]=y at *;have a1:(x.cells.all λv=>v.oneCell')=true:=rfl;have a2:(y.cells.all λv=>v.oneCell')=true:=rfl;simp only[Qb,simprocAttr,r0,r1,r5,c1,c2,c3,c4,c5,hb1,hb2,d1,d2,n1,n2,a1,a2,WQ];rw[QHS x y rfl (by simp only[Qg,simprocAttr]) (by simp only[Qg,simprocAttr])]
    by_cases h3:x=y
    ·have e3:decide (x=y)=true:=Lp h3;simp only[Qb,simprocAttr,e3,r5,ei];refine⟨xs.length - (i+1),by omega,i+1,by omega,rfl,rfl,λj hj=>?_,?_,?_,?_⟩
     ·rcases Nq j i with h | h
      ·exact hall j h
      ·rw[show j=i by omega,p1,p2,h3]
     all_goals simp only[Qg,simprocAttr,r0,r1]
    ·have e3:decide (x=y)=false:=Lj h3;simp only[Qb,simprocAttr,e3,ZT];have h4:xs≠ys:=λh=>by
      rw[h,p2]at p1;exact h3 (Ly p1).symm
     exact .mk (Lb _) ⟨by rw[Lj h4],rfl⟩
   ·have h2:i=xs.length:=by have:=Ll h2;omega
    subst h2;simp only[Qb,simprocAttr,ZT];have heq:xs=ys:=by
     refine BA λi=>?_
     by_cases h1:i<xs.length
     ·exact hall i h1
     ·rw[N7 (by omega),N7 (by omega)]
    exact .mk (Lb _) ⟨by rw[Lp heq],rfl⟩
 ·have e0:((xs.length:Int)==(ys.length:Int))=false:=by simp;omega
  simp only[e0,Qb,simprocAttr,ZT];exact .mk (Lb _) ⟨by rw[Lj (λh=>hne (by rw[h]))],rfl⟩
theorem QzU (o p:Int)(va vb:Value)(xs ys:List Ar)(H:Qa)(ha:Qv H va xs)(hb:Qv H vb ys)(hlx:xs.length<=1000000)(hly:ys.length<=1000000):Qe prog 12 [.agg #[.int .i64 o,va],.agg #[.int .i64 p,vb]] H λu H'=>u=.bool ((o==p)&&decide (xs=ys))∧∃k,H'=H.up k:=by
 refine QgA λhw=>?_;have hx:Ext H ((H.push (.cells [.int .i64 o,va] 24 false)).push (.cells [.int .i64 p,vb] 24 false)):=((Ext.refl H).push _).push _;have ha2:=ha.ext hw hx;have hb2:=hb.ext hw hx;have q:=QzT va vb xs ys _ ha2 hb2 hlx hly;obtain⟨aa,acap,rfl,hsa⟩:=ha;obtain⟨ba,bcap,rfl,hsb⟩:=hb;simp only[V3,Qb,simprocAttr,Yo];cases h1:o==p
 ·simp only[Qb,simprocAttr,Yo];exact .ext hw hx ⟨rfl,_,rfl⟩
 ·simp only[Qb,simprocAttr,Yo];refine q.thenW ?_;rintro _ _ hn hw2 ⟨rfl,rfl⟩;simp only[Qb,simprocAttr,Yo];exact .ext hw hx ⟨by simp,_,rfl⟩
end Go.Proofs.YtgepgbbjfhggfaaGreatDoor.code
