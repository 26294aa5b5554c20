/- The document's Place. -/
import Derived.Test.YtdjkkoacinpdeaaGreatDoorLibF
import Derived.Test.YtdjkkoacinpdeaaGreatDoorLibE
set_option linter.unusedVariables false
set_option linter.unusedSimpArgs false
set_option maxRecDepth 100000
set_option maxHeartbeats 4000000
noncomputable section
namespace Go.Proofs.YtdjkkoacinpdeaaGreatDoor.code
open Go.Ab
theorem Qf3 (n:Int) (H:Qa):Qf prog Yi [.int .i64 n] H fun u H'=>u=.string (mkS (QaI n))∧H'=H:=by
 refine Qc5 fun hw=>?_
 unfold QaI
 simp only[GF,Kl,Km,Kn,Ko,sxA,sxB,Nat.reduceBEq,Nat.reduceEqDiff,reduceCtorEq]
 repeat' (first
  | (refine Qe (fun h=>?_) (fun h=>?_)<;>simp only[sxA,sxB,Nat.reduceBEq,Nat.reduceEqDiff,reduceCtorEq,h,Qca,if_true,if_false,Bool.false_eq_true])
  | fail)
 all_goals exact .mk (Nat.le_refl _) ⟨rfl,rfl⟩
theorem QlY {r:Rg} (h:isR r 0 0=true):Xi r=[]:=by
 rw[QkT.1 h];rfl
section
variable {H:Qa} {m:Mm}
abbrev KQ (H:Qa) (w:List UInt8):Env→Qa→Prop:=Rt prog Qc1 H fun u H'=>u=.tuple #[.string (mkS w),.int .i64 0]∧Ext H H'
theorem QqE (hm:MOk m) (w r:List UInt8) (hl:w.length≤100) {A:Env} {H':Qa} (hx:Ext H H') (hg:H'.get H.next=some (.cells m.cells Qg false)) (r1:A 1=.pointer (some ⟨H.next,0,none⟩)) (r5:A 5=.string (mkS w)) (er:r=QaI m.sz++[91]++(w++Qjh w.isEmpty m)++[93]):
  Qj prog WE ⟨KQ H r,Y8⟩ (KQ H r) A H':=by
 have hd:=hm.d
 have hI:I64 m.d:=by unfold I64;omega
 have hI2:I64 (-m.d):=by unfold I64;omega
 have wn:IntKind.i64.wrap (-m.d)=-m.d:=w64 hI2
 have hh:=Z9 m.d hI
 have hh2:=Z9 (-m.d) hI2
 have hs:=Qgv m.sz
 have hm5:m.cells[5]? = some (.int .i64 m.d):=rfl
 have hm6:m.cells[6]? = some (.int .i64 m.sz):=rfl
 unfold Qjh at er
 have hbr:∀ (x:List UInt8) (A2:Env),x.length≤200→r=QaI m.sz++[91]++x++[93]→A2 1=.pointer (some ⟨H.next,0,none⟩)→A2 5=.string (mkS x)→Qj prog (.seq (.ops [Ow 61 (.fldA 6 (t 1)),Ow 62 (.ld false 1 (t 61)),Ow 63 (.call Yi [(t 62)]),Ow 64 (.bin .add (t 63) (.const (.string (mkS [91])))),Om 65 (t 5),Ow 66 (.bin .add (t 64) (t 65)),Ow 67 (.bin .add (t 66) (.const (.string (mkS [93])))),Om 2 (t 67),Om 3 (Ci 0)]) .ret) ⟨KQ H r,Y8⟩ (KQ H r) A2 H':=by
  intro x A2 hx2 e q1 q5
  simp only[sxA,sxB,Nat.reduceBEq,Nat.reduceEqDiff,reduceCtorEq,mxA,mxB,Nat.reduceAdd,reduceIte,Nat.reduceLeDiff,splice,q1,q5,hg,hm6]
  refine(Qf3 m.sz H').thenW ?_
  rintro _ H2 _ hw2 ⟨rfl,rfl⟩
  simp only[sxA,sxB,Nat.reduceBEq,Nat.reduceEqDiff,reduceCtorEq,mxA,mxB,Nat.reduceAdd,reduceIte,Nat.reduceLeDiff,splice,syA,q1,q5]
  simp only[YU,sxA,sxB,Nat.reduceBEq,Nat.reduceEqDiff,reduceCtorEq]
  subst e
  exact⟨(by first | omega | (simp only[List.length_append,List.length_cons,List.length_nil];omega)),(by first | omega | (simp only[List.length_append,List.length_cons,List.length_nil];omega)),(by first | omega | (simp only[List.length_append,List.length_cons,List.length_nil];omega)),.mk hx.next ⟨rfl,hx⟩⟩
 have hxq:∀n,I64 n→Qf prog Wg [.int .i64 n] H' fun u H2=>u=.string (mkS (Qas n))∧H2=H':=fun n hn=>QdT n hn H'
 simp only[WE,X9,Kg]
 simp only[sxA,sxB,Nat.reduceBEq,Nat.reduceEqDiff,reduceCtorEq,mxA,mxB,Nat.reduceAdd,reduceIte,Nat.reduceLeDiff,splice,syA,r1,r5]
 cases hw0:w==[] with
 | true=>
  have hw':w=[]:=by simpa using hw0
  subst hw'
  rw[List.isEmpty_nil,cond_true,List.nil_append]at er
  simp only[sxA,sxB,Nat.reduceBEq,Nat.reduceEqDiff,reduceCtorEq,mxA,mxB,Nat.reduceAdd,reduceIte,Nat.reduceLeDiff,splice,syA,r1,r5,hg,hm5]
  refine(hxq m.d hI).thenW ?_
  rintro _ H2 _ hw2 ⟨rfl,rfl⟩
  simp only[XF,Wp,WA,XB,QcC]
  refine hbr (Qas m.d) _ (by omega) er ?_ ?_
  all_goals simp only[uxA,uxB,Nat.reduceBEq,r1]
 | false=>
  have hw':w.isEmpty=false:=by cases w with | nil=>cases hw0 | cons x y=>rfl
  rw[hw',cond_false]at er
  cases h1:decide (0<m.d) with
  | true=>
   rw[h1,cond_true]at er
   simp only[Xn,sxA,sxB,Nat.reduceBEq,Nat.reduceEqDiff,reduceCtorEq,mxA,mxB,Nat.reduceAdd,reduceIte,Nat.reduceLeDiff,splice,syA,r1,r5,hg,hm5,h1]
   refine⟨(by first | omega | (simp only[List.length_append,List.length_cons,List.length_nil];omega)),?_⟩
   refine(hxq m.d hI).thenW ?_
   rintro _ H2 _ hw2 ⟨rfl,rfl⟩
   simp only[XF,Wp,WA,XB,QcC,Qkt,QfE,JY,uxA,uxB,Nat.reduceBEq]
   refine⟨(by first | omega | (simp only[List.length_append,List.length_cons,List.length_nil];omega)),?_⟩
   refine hbr (w++[32,43,32]++Qas m.d) _ (by first | omega | (simp only[List.length_append,List.length_cons,List.length_nil];omega)) (by rw[er];simp only[List.append_assoc]) ?_ ?_
   all_goals simp only[uxA,uxB,Nat.reduceBEq,r1]
  | false=>
   rw[h1,cond_false]at er
   cases h2:decide (m.d<0) with
   | true=>
    rw[h2,cond_true]at er
    simp only[Xn,Yz,sxA,sxB,Nat.reduceBEq,Nat.reduceEqDiff,reduceCtorEq,mxA,mxB,Nat.reduceAdd,reduceIte,Nat.reduceLeDiff,splice,syA,r1,r5,hg,hm5,h1,h2]
    rw[Qag (ik:=.i64) (n:=m.d) (by simp only[uxA,uxB,Nat.reduceBEq])]
    simp only[sxA,sxB,Nat.reduceBEq,Nat.reduceEqDiff,reduceCtorEq,wn]
    refine⟨(by first | omega | (simp only[List.length_append,List.length_cons,List.length_nil];omega)),?_⟩
    refine(hxq (-m.d) hI2).thenW ?_
    rintro _ H2 _ hw2 ⟨rfl,rfl⟩
    simp only[XF,Wp,WA,XB,QcC,Qkt,QfE,JY,uxA,uxB,Nat.reduceBEq]
    refine⟨(by first | omega | (simp only[List.length_append,List.length_cons,List.length_nil];omega)),?_⟩
    refine hbr (w++[32,45,32]++Qas (-m.d)) _ (by first | omega | (simp only[List.length_append,List.length_cons,List.length_nil];omega)) (by rw[er];simp only[List.append_assoc]) ?_ ?_
    all_goals simp only[uxA,uxB,Nat.reduceBEq,r1]
   | false=>
    rw[h2,cond_false,List.append_nil]at er
    simp only[Xn,Yz,sxA,sxB,Nat.reduceBEq,Nat.reduceEqDiff,reduceCtorEq,mxA,mxB,Nat.reduceAdd,reduceIte,Nat.reduceLeDiff,splice,syA,r1,r5,hg,hm5,hm6,h1,h2]
    refine(Qf3 m.sz H').thenW ?_
    rintro _ H2 _ hw2 ⟨rfl,rfl⟩
    simp only[sxA,sxB,Nat.reduceBEq,Nat.reduceEqDiff,reduceCtorEq,mxA,mxB,Nat.reduceAdd,reduceIte,Nat.reduceLeDiff,splice,syA,r1,r5,YU]
    subst er
    exact⟨(by first | omega | (simp only[List.length_append,List.length_cons,List.length_nil];omega)),(by first | omega | (simp only[List.length_append,List.length_cons,List.length_nil];omega)),(by first | omega | (simp only[List.length_append,List.length_cons,List.length_nil];omega)),.mk hx.next ⟨rfl,hx⟩⟩
def Qnf:PC:=(.ops [Om 24 (t 5),Ow 25 (.fldA 2 (t 1)),Ow 26 (.ld true 2 (t 25)),⟨some 27,.callF QW [(t 26)] [(t 1)],none,true⟩,Ow 28 (.bin .add (t 24) (t 27)),Ow 29 (.bin .add (t 28) (.const (.string (mkS [42])))),Ow 30 (.fldA 4 (t 1)),⟨some 31,.ld false 1 (t 30),none,true⟩,Ow 32 (.call XP [(t 31)]),Ow 33 (.bin .add (t 29) (t 32)),Om 5 (t 33)])
theorem QtY:YA=(.seq (.seq (.ops [Om 20 (t 5),Ow 21 (.bin .neq (t 20) (.const (.string (mkS []))))]) (.cond (t 21) (.ops [Om 22 (t 5),Ow 23 (.bin .add (t 22) (.const (.string (mkS [32,43,32])))),Om 5 (t 23)]) .skip)) Qnf):=rfl
theorem Qtk (hc:QrV m) (w r:List UInt8) (f:Bool) (hf:w.isEmpty=f) (hl:w.length≤20) {A:Env} {H':Qa} (hx:Ext H H') (hw:H'.Wf) (hg:H'.get H.next=some (.cells m.cells Qg false)) (r1:A 1=.pointer (some ⟨H.next,0,none⟩)) (r5:A 5=.string (mkS w)) (er:r=QaI m.sz++[91]++(w++QoU f m++Qjh (f&&isR m.i 0 0) m)++[93]):
  Qj prog (.seq (.seq (.ops [Ow 17 (.fldA 4 (t 1)),Ow 18 (.ld false 1 (t 17)),Ow 19 (.bin .gtr (t 18) (Ci 0))]) (.cond (t 19) YA .skip)) WE) ⟨KQ H r,Y8⟩ (KQ H r) A H':=by
 have hg0:=hg
 have hlt:=hw.lt hg
 simp only[Mm.cells]at hg
 have hr:=Ka m.i
 have hz:=hc.z
 have hp:=hc.p
 have hoi:=hc.ok.i
 unfold QoU at er
 simp only[sxA,sxB,Nat.reduceBEq,Nat.reduceEqDiff,reduceCtorEq,mxA,mxB,Nat.reduceAdd,reduceIte,Nat.reduceLeDiff,splice,r1,hg]
 cases h:isR m.i 0 0 with
 | true=>
  rw[h,cond_true,Bool.and_true,List.append_nil]at er
  have hs:decide (0<m.sc)=false:=by rw[hz h];rfl
  simp only[sxA,sxB,Nat.reduceBEq,Nat.reduceEqDiff,reduceCtorEq,hs]
  refine QqE hc.ok w r (by omega) hx hg0 ?_ ?_ (by rw[er,hf])
  all_goals simp only[uxA,uxB,Nat.reduceBEq,r1,r5]
 | false=>
  rw[h,cond_false,Bool.and_false]at er
  have hsp:=hp h
  obtain⟨i1,i2,i3⟩:=hoi h
  have hs:decide (0<m.sc)=true:=decide_eq_true hsp
  have hsc:((m.sc.toNat:Nat):Int)=m.sc:=by omega
  have hsn:m.sc.toNat<10:=by omega
  have hne:=QjY i1
  -- the rest: the other register behind what there is
  have hrest:∀ (w2:List UInt8) (A2:Env),w2.length≤30→r=QaI m.sz++[91]++(w2++(Xi m.i++([42]++QfY m.sc.toNat))++Qjh false m)++[93]→A2 1=.pointer (some ⟨H.next,0,none⟩)→A2 5=.string (mkS w2)→
    Qj prog Qnf ⟨KQ H r,Y8⟩ (Qj prog WE ⟨KQ H r,Y8⟩ (KQ H r)) A2 H':=by
   intro w2 A2 hw2 e2 q1 q5
   have q:=Qcr m.i H'
   simp only[Rg.cells]at q
   simp only[Qnf,sxA,sxB,Nat.reduceBEq,Nat.reduceEqDiff,reduceCtorEq,mxA,mxB,Nat.reduceAdd,reduceIte,Nat.reduceLeDiff,splice,syA,q1,q5,hg]
   have hd1:(QfY m.sc.toNat).length=1:=rfl
   refine⟨hlt,q.thenW ?_⟩
   rintro _ _ hn3 hw3 ⟨rfl,k,rfl⟩
   simp only[Qa.next_up]at hn3
   have hx3:Ext H (H'.up k):=hx.up hn3
   have hg3:(H'.up k).get H.next=some (.cells m.cells Qg false):=by rw[Qa.get_up];exact hg0
   have heq:EqB H' (H'.up k):=((Ext.refl H').up hn3).eqB
   generalize H'.up k=H3 at *
   have hg4:=hg3
   simp only[Mm.cells]at hg4
   simp only[sxA,sxB,Nat.reduceBEq,Nat.reduceEqDiff,reduceCtorEq,mxA,mxB,Nat.reduceAdd,reduceIte,Nat.reduceLeDiff,splice,syA,q1,q5,hg4]
   refine⟨heq,(by first | omega | (simp only[List.length_append,List.length_cons,List.length_nil];omega)),(by first | omega | (simp only[List.length_append,List.length_cons,List.length_nil];omega)),by simp[Qn,Ab.plain],?_⟩
   have qi:=QrT m.sc.toNat hsn H3
   rw[hsc]at qi
   refine qi.thenW ?_
   rintro _ H3 _ hw4 ⟨rfl,rfl⟩
   simp only[sxA,sxB,Nat.reduceBEq,Nat.reduceEqDiff,reduceCtorEq,mxA,mxB,Nat.reduceAdd,reduceIte,Nat.reduceLeDiff,splice,syA,q1,q5]
   refine⟨(by first | omega | (simp only[List.length_append,List.length_cons,List.length_nil];omega)),?_⟩
   refine QqE hc.ok (w2++Xi m.i++[42]++QfY m.sc.toNat) r (by first | omega | (simp only[List.length_append,List.length_cons,List.length_nil];omega)) hx3 hg3 ?_ ?_ ?_
   ·simp only[uxA,uxB,Nat.reduceBEq,q1]
   ·simp only[uxA,uxB,Nat.reduceBEq]
   ·have hem:(w2++Xi m.i++[42]++QfY m.sc.toNat).isEmpty=false:=by simp
    rw[hem,e2];simp only[List.append_assoc]
  cases w with
  | nil=>
   have hf':f=true:=hf.symm
   subst hf'
   rw[cond_true,List.nil_append,List.nil_append]at er
   simp only[hs,QtY,sxA,sxB,Nat.reduceBEq,Nat.reduceEqDiff,reduceCtorEq,mxA,mxB,Nat.reduceAdd,reduceIte,Nat.reduceLeDiff,splice,syA,r1,r5,beq_self_eq_true,Bool.not_true]
   refine hrest [] _ (by simp) (by rw[er];simp only[List.append_assoc,List.nil_append]) ?_ ?_
   all_goals simp only[uxA,uxB,Nat.reduceBEq,r1,r5]
  | cons x y=>
   have hf':f=false:=hf.symm
   subst hf'
   rw[cond_false]at er
   have hl':y.length+1≤20:=hl
   have hne2:(x::y==([]:List UInt8))=false:=rfl
   simp only[hs,QtY,sxA,sxB,Nat.reduceBEq,Nat.reduceEqDiff,reduceCtorEq,mxA,mxB,Nat.reduceAdd,reduceIte,Nat.reduceLeDiff,splice,syA,r1,r5,hne2,Bool.not_false]
   refine⟨(by first | omega | (simp only[List.length_append,List.length_cons,List.length_nil];omega)),?_⟩
   refine hrest (x::(y++[32,43,32])) _ ?_ (by rw[er];simp only[List.append_assoc,List.cons_append,List.nil_append]) ?_ ?_
   ·simp only[List.length_append,List.length_cons,List.length_nil];omega
   all_goals simp only[uxA,uxB,Nat.reduceBEq,r1,r5]
end
theorem QeL (m:Mm) (H:Qa):Qf prog XS [.agg m.cells.toArray] H fun u H'=>u=.tuple #[.string (mkS (QaY m).1),.int .i64 (QaY m).2]∧Ext H H':=by
 refine Qb7 fun hw=>?_
 have q:=GU m
 have hce:Gj m=if Qm m=0 then(Wt m,0) else(Gi,Qm m):=rfl
 have hcan:=@Qtg m
 have hx1:=(Ext.refl H).push (.cells m.cells Qg false)
 have hw1:=hw.push (.cells m.cells Qg false)
 have hg1:(H.push (.cells m.cells Qg false)).get H.next=some (.cells m.cells Qg false):=by rw[Qa.get_push,if_pos rfl]
 have hn1:(H.push (.cells m.cells Qg false)).next=H.next+1:=rfl
 obtain⟨w,ew⟩:∃w,w=QaY m:=⟨_,rfl⟩
 rw[← ew]
 unfold QaY at ew
 obtain⟨e,he⟩:∃e,Qm m=e:=⟨_,rfl⟩
 rw[he]at ew hce hcan
 rw[hce]at q
 clear hce
 generalize hc:Wt m=c at *
 clear he hc
 obtain⟨⟨bc,bn⟩,⟨ic,nn⟩,sc,d,sz⟩:=m
 simp only[Mm.cells]at hx1 hw1 hg1 hn1 q
 simp only[Mm.cells,KV,sxA,sxB,Nat.reduceBEq,Nat.reduceEqDiff,reduceCtorEq,mxA,mxB,Nat.reduceAdd,reduceIte,Nat.reduceLeDiff,splice]
 generalize H.push _=H1 at *
 refine(q H1).thenW ?_
 rintro _ H2 hn2 hw2 ⟨rfl,k,rfl⟩
 simp only[Qa.next_up]at hn2
 have hup:(H1.up k).get H.next=some (.cells [.int .i64 bc,.int .i64 bn,.int .i64 ic,.int .i64 nn,.int .i64 sc,.int .i64 d,.int .i64 sz] Qg false):=by rw[Qa.get_up];exact hg1
 have hx2:Ext H (H1.up k):=hx1.up hn2
 generalize H1.up k=H2 at *
 cases h:e==0 with
 | false=>
  rw[h,if_neg (by simp)]at ew
  have he:¬e=0:=by simpa using h
  simp only[if_neg he,sxA,sxB,Nat.reduceBEq,Nat.reduceEqDiff,reduceCtorEq,mxA,mxB,Nat.reduceAdd,reduceIte,Nat.reduceLeDiff,splice,hup,h,Bool.not_false,YU]
  subst ew
  have hx3:=hx2.set (i:=H.next) (Nat.le_refl _) (.cells [.int .i64 0,.int .i64 0,.int .i64 0,.int .i64 0,.int .i64 0,.int .i64 0,.int .i64 0] Qg false)
  exact .mk hx3.next ⟨rfl,hx3⟩
 | true=>
  have he:e=0:=by simpa using h
  have hc:=hcan he
  rw[h,if_pos rfl]at ew
  subst ew
  have hx3:=hx2.set (i:=H.next) (Nat.le_refl _) (.cells c.cells Qg false)
  have hw3:=hw2.set hup (.cells c.cells Qg false)
  have hg3:(H2.set H.next (.cells c.cells Qg false)).get H.next=some (.cells c.cells Qg false):=by rw[Qa.get_set,if_pos rfl]
  simp only[he,if_true,sxA,sxB,Nat.reduceBEq,Nat.reduceEqDiff,reduceCtorEq,mxA,mxB,Nat.reduceAdd,reduceIte,Nat.reduceLeDiff,splice,hup,beq_self_eq_true,Bool.not_true,Ju]
  have qb:=Qcr c.b
  simp only[Rg.cells]at qb
  refine(qb _).thenW ?_
  rintro _ _ hn4 hw4 ⟨rfl,k2,rfl⟩
  simp only[Qa.next_set]at hn4
  have hx4:=hx3.up hn4
  have hg4:((H2.set H.next (.cells c.cells Qg false)).up k2).get H.next=some (.cells c.cells Qg false):=by rw[Qa.get_up];exact hg3
  have hrl:=Ka c.b
  have hfb:(Xi c.b).isEmpty=isR c.b 0 0:=by
   cases hb:isR c.b 0 0 with
   | true=>rw[QlY hb];rfl
   | false=>
    have:=QjY (hc.ok.b hb)
    cases hq:Xi c.b with
    | nil=>exact absurd hq this
    | cons x y=>rfl
  simp only[Mm.cells]at hx4 hg4
  simp only[XF,Wp,WA,XB,QcC,uxA,uxB,Nat.reduceBEq]
  refine Qtk hc (Xi c.b) _ (isR c.b 0 0) hfb (by omega) hx4 hw4 hg4 ?_ ?_ ?_
  ·simp only[uxA,uxB,Nat.reduceBEq]
  ·simp only[uxA,uxB,Nat.reduceBEq]
  ·unfold Qap QnX
   cases hb:isR c.b 0 0 with
   | true=>rw[QlY hb];simp only[cond_true,List.append_assoc]
   | false=>simp only[cond_false,List.append_assoc]
end Go.Proofs.YtdjkkoacinpdeaaGreatDoor.code
