/- listing.Check. -/
import Derived.Test.YthoanamkoigjeaaDoorLibT
import Derived.Test.YthoanamkoigjeaaDoorLibX
set_option linter.unusedVariables false
set_option linter.unusedSimpArgs false
set_option maxRecDepth 100000
set_option maxHeartbeats 4000000
noncomputable section
namespace Go.Proofs.YthoanamkoigjeaaDoor.code
open Go.Ab
def QjI (x:Im):Prop:=x.b.length≤1048576∧x.syms.length≤20000∧x.marks.length≤20000
open Classical in
def G7 (x:Im):Int:=if QjI x then(if ZF x then 0 else 2) else 3
theorem QeP {l:List Sy} {i:Nat} {m:Sy} (h:l[i]? = some m):((YV l).drop (i * 3)).take 3=m.cells:=by
 induction l generalizing i with
 | nil=>simp at h
 | cons a l ih=>
  have e:YV (a::l)=a.cells++YV l:=rfl
  have hl:a.cells.length=3:=rfl
  cases i with
  | zero=>simp at h;subst h;rfl
  | succ i=>
   rw[e,List.drop_append,hl,show(i+1) * 3 - 3=i * 3 by omega,List.drop_eq_nil_of_le (by omega),List.nil_append]
   exact ih (by simpa using h)
theorem Qdn {l:List Mk} {i:Nat} {m:Mk} (h:l[i]? = some m):((WS l).drop (i * 3)).take 3=m.cells:=by
 induction l generalizing i with
 | nil=>simp at h
 | cons a l ih=>
  have e:WS (a::l)=a.cells++WS l:=rfl
  have hl:a.cells.length=3:=rfl
  cases i with
  | zero=>simp at h;subst h;rfl
  | succ i=>
   rw[e,List.drop_append,hl,show(i+1) * 3 - 3=i * 3 by omega,List.drop_eq_nil_of_le (by omega),List.nil_append]
   exact ih (by simpa using h)
theorem QjJ (x:Im) (vb vs vm:Value) (hnm:∀y∈x.syms,y.name.length≤1000000) (H:Qa) (hb:∃a c,vb=.slice a x.b.length c) (hs:YD H vs x.syms.length (YV x.syms)) (hm:YD H vm x.marks.length (WS x.marks)) (hsz:x.b.length≤1000000000∧x.syms.length≤1000000000∧x.marks.length≤1000000000):Qf prog XZ [.agg #[.int .i64 x.org,vb,vs,vm]] H fun u H'=>u=.int .i64 (G7 x)∧Ext H H':=by
 refine Qcz fun hw=>?_
 obtain⟨ba,bc,rfl⟩:=hb
 obtain⟨sa,sc,rfl,hs1⟩:=id hs
 obtain⟨ma,mc,rfl,hm1⟩:=id hm
 simp only[Vj,sxA,sxB,Nat.reduceBEq,Nat.reduceEqDiff,reduceCtorEq,mxA,mxB,Nat.reduceAdd,reduceIte,Nat.reduceLeDiff,splice,syA]
 have hx1:∀c,Ext H (H.push c):=fun c=>(Ext.refl H).push c
 have nx:∀c,H.next≤(H.push c).next:=fun c=>by rw[Qa.next_push];omega
 have fin:∀ (z:Int) (A:Env) (H':Qa),A 2=.int .i64 z→G7 x=z→Ext H H'→Rt prog Qds H (fun u H'=>u=.int .i64 (G7 x)∧Ext H H') A H':=fun z A H' h2 hz hx=>by
  rw[Qb3,h2]
  exact .mk hx.next ⟨by rw[hz],hx⟩
 have e3:¬QjI x→G7 x=3:=fun h=>by unfold G7;rw[if_neg h]
 by_cases k1:(1048576:Int)<(x.b.length:Int)
 ·simp only[sxA,sxB,Nat.reduceBEq,Nat.reduceEqDiff,reduceCtorEq,mxA,mxB,Nat.reduceAdd,reduceIte,Nat.reduceLeDiff,splice,decide_eq_true k1,Qb]
  exact fin 3 _ _ (by simp only[uxA,uxB,Nat.reduceBEq]) (e3 fun h=>by have:=h.1;omega) (hx1 _)
 ·simp only[sxA,sxB,Nat.reduceBEq,Nat.reduceEqDiff,reduceCtorEq,mxA,mxB,Nat.reduceAdd,reduceIte,Nat.reduceLeDiff,splice,decide_eq_false k1,Qb]
  by_cases k2:(20000:Int)<(x.syms.length:Int)
  ·simp only[sxA,sxB,Nat.reduceBEq,Nat.reduceEqDiff,reduceCtorEq,mxA,mxB,Nat.reduceAdd,reduceIte,Nat.reduceLeDiff,splice,decide_eq_true k2,Qb]
   exact fin 3 _ _ (by simp only[uxA,uxB,Nat.reduceBEq]) (e3 fun h=>by have:=h.2.1;omega) (hx1 _)
  ·simp only[sxA,sxB,Nat.reduceBEq,Nat.reduceEqDiff,reduceCtorEq,mxA,mxB,Nat.reduceAdd,reduceIte,Nat.reduceLeDiff,splice,decide_eq_false k2,Qb]
   by_cases k3:(20000:Int)<(x.marks.length:Int)
   ·simp only[sxA,sxB,Nat.reduceBEq,Nat.reduceEqDiff,reduceCtorEq,mxA,mxB,Nat.reduceAdd,reduceIte,Nat.reduceLeDiff,splice,decide_eq_true k3,Qb]
    exact fin 3 _ _ (by simp only[uxA,uxB,Nat.reduceBEq]) (e3 fun h=>by have:=h.2.2;omega) (hx1 _)
   ·have hS:QjI x:=⟨by omega,by omega,by omega⟩
    have e2:¬ZF x→G7 x=2:=fun h=>by unfold G7;rw[if_pos hS,if_neg h]
    simp only[sxA,sxB,Nat.reduceBEq,Nat.reduceEqDiff,reduceCtorEq,mxA,mxB,Nat.reduceAdd,reduceIte,Nat.reduceLeDiff,splice,decide_eq_false k3,K3]
    by_cases k4:x.org<0
    ·simp only[sxA,sxB,Nat.reduceBEq,Nat.reduceEqDiff,reduceCtorEq,mxA,mxB,Nat.reduceAdd,reduceIte,Nat.reduceLeDiff,splice,decide_eq_true k4]
     exact fin 2 _ _ (by simp only[uxA,uxB,Nat.reduceBEq]) (e2 fun h=>by have:=h.2.1.1;omega) (hx1 _)
    ·simp only[sxA,sxB,Nat.reduceBEq,Nat.reduceEqDiff,reduceCtorEq,mxA,mxB,Nat.reduceAdd,reduceIte,Nat.reduceLeDiff,splice,decide_eq_false k4]
     by_cases k5:140737488355328<x.org
     ·simp only[sxA,sxB,Nat.reduceBEq,Nat.reduceEqDiff,reduceCtorEq,mxA,mxB,Nat.reduceAdd,reduceIte,Nat.reduceLeDiff,splice,decide_eq_true k5]
      exact fin 2 _ _ (by simp only[uxA,uxB,Nat.reduceBEq]) (e2 fun h=>by have:=h.2.1.2;omega) (hx1 _)
     ·simp only[sxA,sxB,Nat.reduceBEq,Nat.reduceEqDiff,reduceCtorEq,mxA,mxB,Nat.reduceAdd,reduceIte,Nat.reduceLeDiff,splice,decide_eq_false k5,K2,Qb]
      generalize hP:Qa.push H _=H1
      obtain⟨c,hP⟩:∃c,H1=H.push (.cells [.int .i64 x.org,.slice ba x.b.length bc,.slice sa x.syms.length sc,.slice ma x.marks.length mc] c false):=⟨_,hP.symm⟩
      have hxp:Ext H H1:=by rw[hP];exact hx1 _
      have hwp:H1.Wf:=by rw[hP];exact hw.push _
      have hgp:H1.get H.next=some (.cells [.int .i64 x.org,.slice ba x.b.length bc,.slice sa x.syms.length sc,.slice ma x.marks.length mc] c false):=by rw[hP,Qa.get_push,if_pos rfl]
      have hnp:H1.next=H.next+1:=by rw[hP,Qa.next_push]
      clear hP
      refine QC (fun m A' H'=>∃i:Nat,i≤x.syms.length∧m=x.syms.length - i∧H'.Wf∧Ext H1 H'∧(∀j<i,QnO x.syms j)∧A' 1=.pointer (some ⟨H.next,0,none⟩)∧A' 35=.slice sa x.syms.length sc∧A' 36=.int .i64 x.syms.length∧A' 37=.int .i64 i) x.syms.length ?_ ?_
      ·refine⟨0,Nat.zero_le _,rfl,hwp,.refl _,fun j hj=>by omega,?_,?_,?_,?_⟩
       all_goals simp only[uxA,uxB,Nat.reduceBEq]
       all_goals rfl
      ·rintro m A' H2 ⟨i,hi,rfl,hw2,hx2,hall,r1,r35,r36,r37⟩
       have hx02:=hxp.trans hx2
       have hn2:=hx2.next
       have hg2:H2.get H.next=some (.cells [.int .i64 x.org,.slice ba x.b.length bc,.slice sa x.syms.length sc,.slice ma x.marks.length mc] c false):=by rw[hx2.get _ (by omega)];exact hgp
       by_cases h2:i<x.syms.length
       ·have e1:decide ((i:Int)<(x.syms.length:Int))=true:=decide_eq_true (by omega)
        have c1:(0:Int)≤(i:Int)∧(i:Int)<(x.syms.length:Int):=by omega
        have u1:(i:Int).toNat=i:=Int.toNat_natCast _
        have ei:IntKind.i64.wrap ((i:Int)+1)=((i+1:Nat):Int):=by rw[w64 (by unfold I64;omega)];rfl
        obtain⟨b,e,ro,rfl,hgl⟩:=hs1 (by omega)
        have hbl:=hw.lt hgl
        have hgl2:H2.get b=some (.cells (YV x.syms) e ro):=by rw[hx02.get _ hbl];exact hgl
        have p1:=List.getElem?_eq_getElem h2
        have hlm:=hnm _ (List.getElem_mem h2)
        generalize x.syms[i]=y at *
        have t1:=QeP p1
        have hle:i * 3+3≤(YV x.syms).length:=by rw[QeJ];omega
        have nb:¬b=H2.next:=by have:=hw2.lt hgl2;omega
        have nX:¬H.next=H2.next:=by omega
        simp only[Zp,K1,sxA,sxB,Nat.reduceBEq,Nat.reduceEqDiff,reduceCtorEq,mxA,mxB,Nat.reduceAdd,reduceIte,Nat.reduceLeDiff,splice,syA,r1,r35,r36,r37,e1,c1,decide_true,u1,hgl2,t1,hle,Sy.cells]
        generalize hS2:Qa.set (Qa.push H2 _) _ _=H3
        obtain⟨c3,hS2⟩:∃c3,H3=(H2.push (.cells [.string (mkS []),.int .i64 0,.bool false] c3 false)).set H2.next (.cells [.string (mkS y.name),.int .i64 y.n,.bool y.here] c3 false):=⟨_,hS2.symm⟩
        have hx3:Ext H2 H3:=by rw[hS2];exact((Ext.refl H2).push _).set (Nat.le_refl _) _
        have hw3:H3.Wf:=by rw[hS2];exact(hw2.push _).set (by rw[Qa.get_push,if_pos rfl]) _
        have hgY:H3.get H2.next=some (.cells [.string (mkS y.name),.int .i64 y.n,.bool y.here] c3 false):=by rw[hS2,Qa.get_set,if_pos rfl]
        clear hS2
        refine(Qce (mkS y.name) (by rw[Qg];exact hlm) H3).thenW ?_
        rintro _ H4 _ hw4 ⟨rfl,rfl⟩
        rw[Qg]
        have hx04:=hx02.trans hx3
        have hx14:=hx2.trans hx3
        cases hnm2:V4 y.name with
        | false=>
         simp only[sxA,sxB,Nat.reduceBEq,Nat.reduceEqDiff,reduceCtorEq,mxA,mxB,Nat.reduceAdd,reduceIte,Nat.reduceLeDiff,splice]
         exact fin 2 _ _ (by simp only[uxA,uxB,Nat.reduceBEq]) (e2 fun h=>by have:=(h.2.2.1 i y p1).1;rw[hnm2]at this;cases this) hx04
        | true=>
         by_cases h0:i=0
         ·have e2':decide ((0:Int)<(i:Int))=false:=decide_eq_false (by omega)
          simp only[sxA,sxB,Nat.reduceBEq,Nat.reduceEqDiff,reduceCtorEq,mxA,mxB,Nat.reduceAdd,reduceIte,Nat.reduceLeDiff,splice,r37,e2',ei]
          refine⟨x.syms.length - (i+1),by omega,i+1,by omega,rfl,hw4,hx14,?_,?_,?_,?_,?_⟩
          ·intro j hj
           by_cases hji:j=i
           ·subst hji
            intro z hz
            rw[p1]at hz;cases hz
            exact⟨hnm2,fun p hp=>absurd h0 hp⟩
           ·exact hall j (by omega)
          all_goals simp only[uxA,uxB,Nat.reduceBEq,r1,r35,r36]
         ·have e2':decide ((0:Int)<(i:Int))=true:=decide_eq_true (by omega)
          have em:IntKind.i64.wrap ((i:Int) - 1)=((i - 1:Nat):Int):=by rw[w64 (by unfold I64;omega)];omega
          have c5:(0:Int)≤((i - 1:Nat):Int)∧((i - 1:Nat):Int)<(x.syms.length:Int):=by omega
          have u5:((i - 1:Nat):Int).toNat=i - 1:=Int.toNat_natCast _
          have p5:=List.getElem?_eq_getElem (show i - 1<x.syms.length by omega)
          generalize x.syms[i - 1]=z at *
          have g5:=QgP p5
          rw[Nat.add_zero]at g5
          have hg4:H4.get H.next=some (.cells [.int .i64 x.org,.slice ba x.b.length bc,.slice (some ⟨b,0,none⟩) x.syms.length sc,.slice ma x.marks.length mc] c false):=by rw[hx3.get _ (by omega)];exact hg2
          have hgl4:H4.get b=some (.cells (YV x.syms) e ro):=by rw[hx04.get _ hbl];exact hgl
          simp only[sxA,sxB,Nat.reduceBEq,Nat.reduceEqDiff,reduceCtorEq,mxA,mxB,Nat.reduceAdd,reduceIte,Nat.reduceLeDiff,splice,syA,r1,r37,e2',em,c5,c1,decide_true,u1,u5,hgY,hg4,hgl4,g5]
          have hlt:=QaL z.name y.name
          unfold Sy.le at hlt
          cases hle2:Op.bytesLess y.name z.name||y.name==z.name with
          | true=>
           simp only[sxA,sxB,Nat.reduceBEq,Nat.reduceEqDiff,reduceCtorEq,mxA,mxB,Nat.reduceAdd,reduceIte,Nat.reduceLeDiff,splice]
           exact fin 2 _ _ (by simp only[uxA,uxB,Nat.reduceBEq]) (e2 fun h=>by have:=hlt.1 ((h.2.2.1 i y p1).2 z h0 p5);rw[hle2]at this;cases this) hx04
          | false=>
           simp only[sxA,sxB,Nat.reduceBEq,Nat.reduceEqDiff,reduceCtorEq,mxA,mxB,Nat.reduceAdd,reduceIte,Nat.reduceLeDiff,splice,r37,ei]
           refine⟨x.syms.length - (i+1),by omega,i+1,by omega,rfl,hw4,hx14,?_,?_,?_,?_,?_⟩
           ·intro j hj
            by_cases hji:j=i
            ·subst hji
             intro w hz
             rw[p1]at hz;cases hz
             refine⟨hnm2,fun p _ hp=>?_⟩
             rw[p5]at hp;cases hp;exact hlt.2 hle2
            ·exact hall j (by omega)
           all_goals simp only[uxA,uxB,Nat.reduceBEq,r1,r35,r36]
       ·have e1:decide ((i:Int)<(x.syms.length:Int))=false:=decide_eq_false (by omega)
        have hsy:QcP x.syms:=fun j=>by
         by_cases hj:j<i
         ·exact hall j hj
         ·intro y hy
          rw[List.getElem?_eq_none (by omega)]at hy
          cases hy
        have eo:IntKind.i64.wrap (x.org+(x.b.length:Int))=x.org+(x.b.length:Int):=w64 (by unfold I64;omega)
        simp only[Zp,K0,sxA,sxB,Nat.reduceBEq,Nat.reduceEqDiff,reduceCtorEq,mxA,mxB,Nat.reduceAdd,reduceIte,Nat.reduceLeDiff,splice,r1,r35,r36,r37,e1,hg2,Qb,eo]
        refine QC (fun m A' H'=>∃ (i:Nat) (a ln:Int),i≤x.marks.length∧m=x.marks.length - i∧H'.Wf∧Ext H1 H'∧0≤a∧a≤x.org+x.b.length∧Wy x.marks x.org (x.org+x.b.length) 1=Wy (x.marks.drop i) a (x.org+x.b.length) ln∧A' 1=.pointer (some ⟨H.next,0,none⟩)∧A' 5=.int .i64 a∧A' 6=.int .i64 (x.org+x.b.length)∧A' 7=.int .i64 ln∧A' 72=.slice ma x.marks.length mc∧A' 73=.int .i64 x.marks.length∧A' 74=.int .i64 i) x.marks.length ?_ ?_
        ·refine⟨0,x.org,1,Nat.zero_le _,rfl,hw2,hx2,by omega,by omega,rfl,?_,?_,?_,?_,?_,?_,?_⟩
         all_goals simp only[uxA,uxB,Nat.reduceBEq,r1]
         all_goals rfl
        ·rintro m A'' H3 ⟨j,a,ln,hj,rfl,hw3,hx3,ha0,hae,hmf,s1,s5,s6,s7,s72,s73,s74⟩
         have hx03:=hxp.trans hx3
         have hn3:=hx3.next
         by_cases h4:j<x.marks.length
         ·have f1:decide ((j:Int)<(x.marks.length:Int))=true:=decide_eq_true (by omega)
          have c1:(0:Int)≤(j:Int)∧(j:Int)<(x.marks.length:Int):=by omega
          have u1:(j:Int).toNat=j:=Int.toNat_natCast _
          have ei:IntKind.i64.wrap ((j:Int)+1)=((j+1:Nat):Int):=by rw[w64 (by unfold I64;omega)];rfl
          obtain⟨b,e,ro,rfl,hgl⟩:=hm1 (by omega)
          have hbl:=hw.lt hgl
          have hgl3:H3.get b=some (.cells (WS x.marks) e ro):=by rw[hx03.get _ hbl];exact hgl
          have hdr:x.marks.drop j=x.marks[j]::x.marks.drop (j+1):=List.drop_eq_getElem_cons h4
          rw[hdr]at hmf
          have p1:=List.getElem?_eq_getElem h4
          generalize x.marks[j]=y at *
          have t1:=Qdn p1
          have hle:j * 3+3≤(WS x.marks).length:=by rw[QcO];omega
          have es:IntKind.i64.wrap (x.org+(x.b.length:Int) - a)=x.org+(x.b.length:Int) - a:=w64 (by unfold I64;omega)
          rw[Wy]at hmf
          have fail:(y.at_≠a∨y.size<1∨x.org+x.b.length - a<y.size∨y.line<ln∨1048576<y.line)→G7 x=2:=fun h=>e2 fun hc=>by
           have:=hc.2.2.2
           rw[hmf,if_pos h]at this;cases this
          simp only[Zo,KZ,sxA,sxB,Nat.reduceBEq,Nat.reduceEqDiff,reduceCtorEq,mxA,mxB,Nat.reduceAdd,reduceIte,Nat.reduceLeDiff,splice,syA,s1,s5,s6,s7,s72,s73,s74,f1,c1,decide_true,u1,hgl3,t1,hle,Mk.cells]
          generalize hS2:Qa.set (Qa.push H3 _) _ _=H4
          obtain⟨c4,hS2⟩:∃c4,H4=(H3.push (.cells [.int .i64 0,.int .i64 0,.int .i64 0] c4 false)).set H3.next (.cells [.int .i64 y.line,.int .i64 y.at_,.int .i64 y.size] c4 false):=⟨_,hS2.symm⟩
          have hx4:Ext H3 H4:=by rw[hS2];exact((Ext.refl H3).push _).set (Nat.le_refl _) _
          have hw4:H4.Wf:=by rw[hS2];exact(hw3.push _).set (by rw[Qa.get_push,if_pos rfl]) _
          have hgY:H4.get H3.next=some (.cells [.int .i64 y.line,.int .i64 y.at_,.int .i64 y.size] c4 false):=by rw[hS2,Qa.get_set,if_pos rfl]
          clear hS2
          have hx04:=hx03.trans hx4
          by_cases k1:y.at_=a
          ·have g1:(y.at_==a)=true:=beq_iff_eq.2 k1
           simp only[sxA,sxB,Nat.reduceBEq,Nat.reduceEqDiff,reduceCtorEq,mxA,mxB,Nat.reduceAdd,reduceIte,Nat.reduceLeDiff,splice,syA,s5,s6,s7,g1,hgY]
           by_cases k2:y.size<1
           ·simp only[sxA,sxB,Nat.reduceBEq,Nat.reduceEqDiff,reduceCtorEq,mxA,mxB,Nat.reduceAdd,reduceIte,Nat.reduceLeDiff,splice,decide_eq_true k2]
            exact fin 2 _ _ (by simp only[uxA,uxB,Nat.reduceBEq]) (fail (.inr (.inl k2))) hx04
           ·simp only[sxA,sxB,Nat.reduceBEq,Nat.reduceEqDiff,reduceCtorEq,mxA,mxB,Nat.reduceAdd,reduceIte,Nat.reduceLeDiff,splice,syA,s5,s6,s7,hgY,decide_eq_false k2,es]
            by_cases k3:x.org+x.b.length - a<y.size
            ·simp only[sxA,sxB,Nat.reduceBEq,Nat.reduceEqDiff,reduceCtorEq,mxA,mxB,Nat.reduceAdd,reduceIte,Nat.reduceLeDiff,splice,decide_eq_true k3]
             exact fin 2 _ _ (by simp only[uxA,uxB,Nat.reduceBEq]) (fail (.inr (.inr (.inl k3)))) hx04
            ·simp only[sxA,sxB,Nat.reduceBEq,Nat.reduceEqDiff,reduceCtorEq,mxA,mxB,Nat.reduceAdd,reduceIte,Nat.reduceLeDiff,splice,syA,s5,s6,s7,hgY,decide_eq_false k3]
             by_cases k4:y.line<ln
             ·simp only[sxA,sxB,Nat.reduceBEq,Nat.reduceEqDiff,reduceCtorEq,mxA,mxB,Nat.reduceAdd,reduceIte,Nat.reduceLeDiff,splice,decide_eq_true k4]
              exact fin 2 _ _ (by simp only[uxA,uxB,Nat.reduceBEq]) (fail (.inr (.inr (.inr (.inl k4))))) hx04
             ·simp only[sxA,sxB,Nat.reduceBEq,Nat.reduceEqDiff,reduceCtorEq,mxA,mxB,Nat.reduceAdd,reduceIte,Nat.reduceLeDiff,splice,syA,s5,s6,s7,hgY,decide_eq_false k4]
              by_cases k5:1048576<y.line
              ·simp only[sxA,sxB,Nat.reduceBEq,Nat.reduceEqDiff,reduceCtorEq,mxA,mxB,Nat.reduceAdd,reduceIte,Nat.reduceLeDiff,splice,decide_eq_true k5]
               exact fin 2 _ _ (by simp only[uxA,uxB,Nat.reduceBEq]) (fail (.inr (.inr (.inr (.inr k5))))) hx04
              ·have ea:IntKind.i64.wrap (a+y.size)=a+y.size:=w64 (by unfold I64;omega)
               rw[if_neg (by omega)]at hmf
               simp only[sxA,sxB,Nat.reduceBEq,Nat.reduceEqDiff,reduceCtorEq,mxA,mxB,Nat.reduceAdd,reduceIte,Nat.reduceLeDiff,splice,syA,s5,s6,s7,s74,hgY,decide_eq_false k5,ea,ei]
               refine⟨x.marks.length - (j+1),by omega,j+1,a+y.size,y.line,by omega,rfl,hw4,hx3.trans hx4,by omega,by omega,hmf,?_,?_,?_,?_,?_,?_,?_⟩
               all_goals simp only[uxA,uxB,Nat.reduceBEq,s1,s6,s72,s73]
          ·have g1:(y.at_==a)=false:=beq_eq_false_iff_ne.2 k1
           simp only[sxA,sxB,Nat.reduceBEq,Nat.reduceEqDiff,reduceCtorEq,mxA,mxB,Nat.reduceAdd,reduceIte,Nat.reduceLeDiff,splice,g1]
           exact fin 2 _ _ (by simp only[uxA,uxB,Nat.reduceBEq]) (fail (.inl k1)) hx04
         ·have f1:decide ((j:Int)<(x.marks.length:Int))=false:=decide_eq_false (by omega)
          rw[List.drop_eq_nil_of_le (by omega),Wy]at hmf
          simp only[Zo,KY,sxA,sxB,Nat.reduceBEq,Nat.reduceEqDiff,reduceCtorEq,mxA,mxB,Nat.reduceAdd,reduceIte,Nat.reduceLeDiff,splice,s1,s5,s6,s7,s72,s73,s74,f1]
          cases hq:a==x.org+(x.b.length:Int) with
          | true=>
           simp only[sxA,sxB,Nat.reduceBEq,Nat.reduceEqDiff,reduceCtorEq,mxA,mxB,Nat.reduceAdd,reduceIte,Nat.reduceLeDiff,splice]
           refine fin 0 _ _ (by simp only[uxA,uxB,Nat.reduceBEq]) ?_ hx03
           unfold G7
           rw[if_pos hS,if_pos ⟨by omega,by omega,hsy,by rw[hmf,hq]⟩]
          | false=>
           simp only[sxA,sxB,Nat.reduceBEq,Nat.reduceEqDiff,reduceCtorEq,mxA,mxB,Nat.reduceAdd,reduceIte,Nat.reduceLeDiff,splice]
           refine fin 2 _ _ (by simp only[uxA,uxB,Nat.reduceBEq]) (e2 fun h=>?_) hx03
           have:=h.2.2.2
           rw[hmf,hq]at this;cases this
def mkL (x:Im) (m:Mk):List UInt8:=J5 m.line m.at_ ((x.b.drop (m.at_ - x.org).toNat).take m.size.toNat)
def Yg (x:Im):List (List UInt8):=VO x.org::(x.syms.map Qba++x.marks.map (mkL x))
def QcW (H0 H:Qa) (v:Value) (W:List (List UInt8)):Prop:=(W.length=1∧∃b,v=.slice (some ⟨b,0,none⟩) 1 1∧H0.next≤b∧H.get b=some (.cells (YU W) 9 false))∨(Gs 1 9 H0 H v W.length (YU W)∧1≤W.length)
theorem QcW.isl {H0 H:Qa} {v:Value} {W:List (List UInt8)} (h:QcW H0 H v W):YD H v W.length (YU W):=by
 rcases h with⟨h1,b,rfl,h2,h3⟩ | ⟨h,_⟩
 ·rw[h1];exact⟨_,_,rfl,fun _=>⟨b,9,false,rfl,h3⟩⟩
 ·exact h.isl
theorem QcW.low {H0 H:Qa} {v:Value} {W:List (List UInt8)} (h:QcW H0 H v W) (hw:H.Wf) {id:Nat} (hi:Qr v id):H0.next≤id∧id<H.next:=by
 rcases h with⟨h1,b,rfl,h2,h3⟩ | ⟨h,_⟩
 ·obtain⟨o,n,c,he⟩:=hi
  cases he
  exact⟨h2,hw.lt h3⟩
 ·exact h.low hw hi
theorem QcW.more {H0 H H':Qa} {v:Value} {W:List (List UInt8)} (h:QcW H0 H v W) (hw:H.Wf) (hx:Ext H H'):QcW H0 H' v W:=by
 rcases h with⟨h1,b,rfl,h2,h3⟩ | ⟨h,h1⟩
 ·exact .inl ⟨h1,b,rfl,h2,by rw[hx.get _ (hw.lt h3)];exact h3⟩
 ·exact .inr ⟨h.ext fun id hid=>hx.get id (h.low hw hid).2,h1⟩
theorem Qmc {H0 H:Qa} {v x:Value} {W:List (List UInt8)} {s:List UInt8} {k:Value→Qa→Prop} (hs:QcW H0 H v W) (hx:Ext H0 H) (hw:H.Wf) (hsrc:VB 1 x H=some (1,[.string (mkS s)])) (hb:W.length≤1000000)
  (h:∀v' H',QcW H0 H' v' (W++[s])→Ext H0 H'→H'.Wf→(∀id,id<H.next→¬Qr v id→H'.get id=H.get id)→H'.next=H.next+1→(∀id,Qr v' id→id=H.next)→k v' H'):Qe9 9 1 16 v x H k:=by
 have e:YU W++[.string (mkS s)]=YU (W++[s]):=by simp[YU]
 rcases hs with⟨h1,b,rfl,h2,h3⟩ | ⟨hg,h1⟩
 ·have hnn:=hx.next
  refine Qkp hsrc rfl (by decide) h3 (by rw[Qey];omega) (by decide) (by decide) (by unfold UNK;decide) (by decide) ?_
  have e2:(YU W).drop 0=YU W:=rfl
  have e3:(YU W).take (1 * 1)=YU W:=List.take_of_length_le (by rw[Qey];omega)
  rw[e2,e3,e]
  refine h _ _ (.inr ⟨.inr ⟨H.next,by rw[List.length_append,h1];rfl,hnn,by rw[Qa.get_push,if_pos rfl],by rw[Qey,Nat.mul_one]⟩,by rw[List.length_append];omega⟩) (hx.push _) (hw.push _) (fun id hid _=>by rw[Qa.get_push,if_neg (by omega)]) (by rw[Qa.next_push]) (by rintro id ⟨o,n',c,he⟩;cases he;rfl)
 ·refine QcK hg hx hw hsrc rfl (Nat.le_refl _) rfl (by omega) (by omega) fun v' H' hg' hx' hw' hk' hn' hi'=>h v' H' (.inr ⟨by rw[← e,List.length_append];exact hg',by rw[List.length_append];omega⟩) hx' hw' hk' hn' hi'
theorem QjK {T:Qa→Prop} (hT:Tz T) (x:Im) (vb vs vm:Value) (hnm:∀y∈x.syms,y.name.length≤1000000) (hni:∀y∈x.syms,I64 y.n) (H:Qa) (hTH:T H) (hb:YD H vb x.b.length (u8v x.b)) (hbc:∀a c,vb=.slice a x.b.length c→(UNK≤c→c=UNK+1)∧(c<UNK→x.b.length≤c)) (hs:YD H vs x.syms.length (YV x.syms)) (hm:YD H vm x.marks.length (WS x.marks)) (hsz:x.b.length≤1048576∧x.syms.length≤100000∧x.marks.length≤100000):
  Qf prog Zc [.agg #[.int .i64 x.org,vb,vs,vm]] H fun u H'=>Ext H H'∧((G7 x≠0∧u=.tuple #[.slice none 0 0,.int .i64 (G7 x)])∨(G7 x=0∧∃v,u=.tuple #[v,.int .i64 0]∧QcW H H' v (Yg x))):=by
 refine Qcy fun hw=>?_
 obtain⟨ba,bc,rfl,hb1⟩:=id hb
 obtain⟨sa,sc,rfl,hs1⟩:=id hs
 obtain⟨ma,mc,rfl,hm1⟩:=id hm
 simp only[Vi,sxA,sxB,Nat.reduceBEq,Nat.reduceEqDiff,reduceCtorEq,mxA,mxB,Nat.reduceAdd,reduceIte,Nat.reduceLeDiff,splice,syA]
 generalize hP:Qa.push H _=H1
 obtain⟨c,hP⟩:∃c,H1=H.push (.cells [.int .i64 x.org,.slice ba x.b.length bc,.slice sa x.syms.length sc,.slice ma x.marks.length mc] c false):=⟨_,hP.symm⟩
 have hxp:Ext H H1:=by rw[hP];exact(Ext.refl H).push _
 have hwp:H1.Wf:=by rw[hP];exact hw.push _
 have hgp:H1.get H.next=some (.cells [.int .i64 x.org,.slice ba x.b.length bc,.slice sa x.syms.length sc,.slice ma x.marks.length mc] c false):=by rw[hP,Qa.get_push,if_pos rfl]
 have hnp:H1.next=H.next+1:=by rw[hP,Qa.next_push]
 clear hP
 refine(QjJ x _ _ _ hnm H1 ⟨_,_,rfl⟩ (hs.ext hw hxp) (hm.ext hw hxp) (by omega)).thenW ?_
 rintro _ H2 _ hw2 ⟨rfl,hx2⟩
 have hx02:=hxp.trans hx2
 have hn2:=hx2.next
 have hg2:H2.get H.next=some (.cells [.int .i64 x.org,.slice ba x.b.length bc,.slice sa x.syms.length sc,.slice ma x.marks.length mc] c false):=by rw[hx2.get _ (by omega)];exact hgp
 simp only[sxA,sxB,Nat.reduceBEq,Nat.reduceEqDiff,reduceCtorEq,mxA,mxB,Nat.reduceAdd,reduceIte,Nat.reduceLeDiff,splice,syA]
 cases hz:G7 x==0 with
 | false=>
  simp only[sxA,sxB,Nat.reduceBEq,Nat.reduceEqDiff,reduceCtorEq,mxA,mxB,Nat.reduceAdd,reduceIte,Nat.reduceLeDiff,splice,syA,GC]
  exact .mk hx02.next ⟨hx02,.inl ⟨beq_eq_false_iff_ne.1 hz,rfl⟩⟩
 | true=>
  have hz:=beq_iff_eq.1 hz
  have hok:ZF x:=by
   unfold G7 at hz
   split at hz
   ·split at hz
    ·assumption
    ·cases hz
   ·cases hz
  obtain⟨⟨k1,k2,k3⟩,⟨k4,k5⟩,k6,k7⟩:=id hok
  have hT2:=hT.q.ext _ _ hw hTH hx02
  simp only[sxA,sxB,Nat.reduceBEq,Nat.reduceEqDiff,reduceCtorEq,mxA,mxB,Nat.reduceAdd,reduceIte,Nat.reduceLeDiff,splice,syA,KX,hg2]
  refine(QfV hT x.org (by unfold I64;omega) H2 hT2).thenW ?_
  rintro _ H3 _ hw3 ⟨rfl,hx3⟩
  have hx03:=hx02.trans hx3
  have hn3:=hx3.next
  have hg3:H3.get H.next=some (.cells [.int .i64 x.org,.slice ba x.b.length bc,.slice sa x.syms.length sc,.slice ma x.marks.length mc] c false):=by rw[hx3.get _ (by omega)];exact hg2
  have nX:¬H.next=H3.next:=by omega
  simp only[sxA,sxB,Nat.reduceBEq,Nat.reduceEqDiff,reduceCtorEq,mxA,mxB,Nat.reduceAdd,reduceIte,Nat.reduceLeDiff,splice,syA,hg3,nX,if_false,Qb]
  generalize hP:Qa.push H3 _=H4
  obtain⟨hP⟩:Nonempty (H4=H3.push (.cells [.string (mkS (VO x.org))] 9 false)):=⟨hP.symm⟩
  have hx4:Ext H3 H4:=by rw[hP];exact(Ext.refl H3).push _
  have hw4:H4.Wf:=by rw[hP];exact hw3.push _
  have hL4:QcW H H4 (.slice (some ⟨H3.next,0,none⟩) 1 1) [VO x.org]:=.inl ⟨rfl,H3.next,rfl,by omega,by rw[hP,Qa.get_push,if_pos rfl];rfl⟩
  have hnbX:¬Qr (.slice (some ⟨H3.next,0,none⟩) 1 1) H.next:=by
   rintro⟨o,n,c,he⟩
   simp only[Value.slice.injEq,Option.some.injEq,Addr.mk.injEq]at he
   omega
  clear hP
  have hx04:=hx03.trans hx4
  have hg4:H4.get H.next=some (.cells [.int .i64 x.org,.slice ba x.b.length bc,.slice sa x.syms.length sc,.slice ma x.marks.length mc] c false):=by rw[hx4.get _ (by omega)];exact hg3
  refine QC (fun m A' H'=>∃ (i:Nat) (v:Value),i≤x.syms.length∧m=x.syms.length - i∧H'.Wf∧Ext H H'∧QcW H H' v (VO x.org::(x.syms.take i).map Qba)∧¬Qr v H.next∧H'.get H.next=some (.cells [.int .i64 x.org,.slice ba x.b.length bc,.slice sa x.syms.length sc,.slice ma x.marks.length mc] c false)∧A' 1=.pointer (some ⟨H.next,0,none⟩)∧A' 5=v∧A' 21=.slice sa x.syms.length sc∧A' 22=.int .i64 x.syms.length∧A' 23=.int .i64 i) x.syms.length ?_ ?_
  ·refine⟨0,_,Nat.zero_le _,rfl,hw4,hx04,hL4,hnbX,hg4,?_,?_,?_,?_,?_⟩
   all_goals simp only[uxA,uxB,Nat.reduceBEq]
   all_goals rfl
  ·rintro m A' H5 ⟨i,v,hi,rfl,hw5,hx5,hL,hnb,hg5,r1,r5,r21,r22,r23⟩
   have hn5:=hx5.next
   have hlX:=hw5.lt hg5
   by_cases h2:i<x.syms.length
   ·have e1:decide ((i:Int)<(x.syms.length:Int))=true:=decide_eq_true (by omega)
    have c1:(0:Int)≤(i:Int)∧(i:Int)<(x.syms.length:Int):=by omega
    have u1:(i:Int).toNat=i:=Int.toNat_natCast _
    have ei:IntKind.i64.wrap ((i:Int)+1)=((i+1:Nat):Int):=by rw[w64 (by unfold I64;omega)];rfl
    obtain⟨b,e,ro,rfl,hgl⟩:=hs1 (by omega)
    have hbl:=hw.lt hgl
    have hgl5:H5.get b=some (.cells (YV x.syms) e ro):=by rw[hx5.get _ hbl];exact hgl
    have p1:=List.getElem?_eq_getElem h2
    have hlm:=hnm _ (List.getElem_mem h2)
    have hln:=hni _ (List.getElem_mem h2)
    have htk:x.syms.take (i+1)=x.syms.take i++[x.syms[i]]:=by rw[List.take_add_one,p1];rfl
    generalize x.syms[i]=y at *
    have t1:=QeP p1
    have hle:i * 3+3≤(YV x.syms).length:=by rw[QeJ];omega
    simp only[Zn,KW,sxA,sxB,Nat.reduceBEq,Nat.reduceEqDiff,reduceCtorEq,mxA,mxB,Nat.reduceAdd,reduceIte,Nat.reduceLeDiff,splice,syA,r1,r5,r21,r22,r23,e1,c1,decide_true,u1,hgl5,t1,hle,Sy.cells]
    generalize hP:Qa.set (Qa.push H5 _) _ _=H6
    obtain⟨c6,hP⟩:∃c6,H6=(H5.push (.cells [.string (mkS []),.int .i64 0,.bool false] c6 false)).set H5.next (.cells y.cells c6 false):=⟨_,hP.symm⟩
    have hx6:Ext H5 H6:=by rw[hP];exact((Ext.refl H5).push _).set (Nat.le_refl _) _
    have hw6:H6.Wf:=by rw[hP];exact(hw5.push _).set (by rw[Qa.get_push,if_pos rfl]) _
    clear hP
    have hx06:=hx5.trans hx6
    refine(QfW hT y hln hlm H6 (hT.q.ext _ _ hw hTH hx06)).thenW ?_
    rintro _ H7 _ hw7 ⟨rfl,hx7⟩
    have hx57:=hx6.trans hx7
    have hn57:=hx57.next
    have hL7:=hL.more hw5 hx57
    have hlowv:=fun id hid=>(hL.low hw5 (id:=id) hid).2
    have hg7:H7.get H.next=some (.cells [.int .i64 x.org,.slice ba x.b.length bc,.slice (some ⟨b,0,none⟩) x.syms.length sc,.slice ma x.marks.length mc] c false):=by rw[hx57.get _ (by omega)];exact hg5
    simp only[sxA,sxB,Nat.reduceBEq,Nat.reduceEqDiff,reduceCtorEq,mxA,mxB,Nat.reduceAdd,reduceIte,Nat.reduceLeDiff,splice,syA,r5]
    generalize hP:Qa.push H7 _=H8
    have hx8:Ext H7 H8:=by rw[← hP];exact(Ext.refl H7).push _
    have hw8:H8.Wf:=by rw[← hP];exact hw7.push _
    have hg8s:H8.get H7.next=some (.cells [.string (mkS (Qba y))] 9 false):=by rw[← hP,Qa.get_push,if_pos rfl]
    clear hP
    have hL8:=hL7.more hw7 hx8
    have hn78:=hx8.next
    have hg8:H8.get H.next=some (.cells [.int .i64 x.org,.slice ba x.b.length bc,.slice (some ⟨b,0,none⟩) x.syms.length sc,.slice ma x.marks.length mc] c false):=by rw[hx8.get _ (by omega)];exact hg7
    refine Qmc hL8 ((hx5.trans hx57).trans hx8) hw8 (Vu hg8s (by decide) rfl) (by simp only[List.length_cons,List.length_map,List.length_take];omega) fun v' H9 hL9 hx9 hw9 hk9 hn9 hi9=>?_
    simp only[sxA,sxB,Nat.reduceBEq,Nat.reduceEqDiff,reduceCtorEq,mxA,mxB,Nat.reduceAdd,reduceIte,Nat.reduceLeDiff,splice,syA,r23,ei]
    refine⟨x.syms.length - (i+1),by omega,i+1,v',by omega,rfl,hw9,hx9,?_,fun hid=>?_,by rw[hk9 _ (by omega) hnb];exact hg8,?_,?_,?_,?_,?_⟩
    ·rw[htk,List.map_append];exact hL9
    ·have:=hi9 _ hid;omega
    all_goals simp only[uxA,uxB,Nat.reduceBEq,r1,r21,r22]
   ·have e1:decide ((i:Int)<(x.syms.length:Int))=false:=decide_eq_false (by omega)
    have hie:i=x.syms.length:=by omega
    subst hie
    rw[List.take_length]at hL
    simp only[Zn,KV,sxA,sxB,Nat.reduceBEq,Nat.reduceEqDiff,reduceCtorEq,mxA,mxB,Nat.reduceAdd,reduceIte,Nat.reduceLeDiff,splice,syA,r1,r5,r21,r22,r23,e1,hg5,Qb]
    refine QC (fun m A' H'=>∃ (i:Nat) (a ln:Int) (v:Value),i≤x.marks.length∧m=x.marks.length - i∧H'.Wf∧Ext H H'∧QcW H H' v (VO x.org::(x.syms.map Qba++(x.marks.take i).map (mkL x)))∧¬Qr v H.next∧H'.get H.next=some (.cells [.int .i64 x.org,.slice ba x.b.length bc,.slice sa x.syms.length sc,.slice ma x.marks.length mc] c false)∧(x.org≤a∧a≤x.org+x.b.length∧1≤ln∧Wy (x.marks.drop i) a (x.org+x.b.length) ln=true)∧A' 1=.pointer (some ⟨H.next,0,none⟩)∧A' 5=v∧A' 34=.slice ma x.marks.length mc∧A' 35=.int .i64 x.marks.length∧A' 36=.int .i64 i) x.marks.length ?_ ?_
    ·refine⟨0,x.org,1,v,Nat.zero_le _,rfl,hw5,hx5,by simpa using hL,hnb,hg5,⟨by omega,by omega,by omega,k7⟩,?_,?_,?_,?_,?_⟩
     all_goals simp only[uxA,uxB,Nat.reduceBEq,r1,r5]
     all_goals rfl
    ·rintro m A'' H6 ⟨j,a,ln,v,hj,rfl,hw6,hx6,hL,hnb,hg6,⟨ha1,ha2,hln1,hmf⟩,s1,s5,s34,s35,s36⟩
     have hn6:=hx6.next
     have hlX:=hw6.lt hg6
     by_cases h4:j<x.marks.length
     ·have f1:decide ((j:Int)<(x.marks.length:Int))=true:=decide_eq_true (by omega)
      have c1:(0:Int)≤(j:Int)∧(j:Int)<(x.marks.length:Int):=by omega
      have u1:(j:Int).toNat=j:=Int.toNat_natCast _
      have ei:IntKind.i64.wrap ((j:Int)+1)=((j+1:Nat):Int):=by rw[w64 (by unfold I64;omega)];rfl
      obtain⟨b,e,ro,rfl,hgl⟩:=hm1 (by omega)
      have hbl:=hw.lt hgl
      have hgl6:H6.get b=some (.cells (WS x.marks) e ro):=by rw[hx6.get _ hbl];exact hgl
      have hdr:x.marks.drop j=x.marks[j]::x.marks.drop (j+1):=List.drop_eq_getElem_cons h4
      rw[hdr,Wy]at hmf
      have p1:=List.getElem?_eq_getElem h4
      have htk:x.marks.take (j+1)=x.marks.take j++[x.marks[j]]:=by rw[List.take_add_one,p1];rfl
      generalize x.marks[j]=y at *
      split at hmf
      ·cases hmf
      ·rename_i hnot
       have t1:=Qdn p1
       have hle:j * 3+3≤(WS x.marks).length:=by rw[QcO];omega
       have nX:¬H.next=H6.next:=by omega
       simp only[Zm,KU,sxA,sxB,Nat.reduceBEq,Nat.reduceEqDiff,reduceCtorEq,mxA,mxB,Nat.reduceAdd,reduceIte,Nat.reduceLeDiff,splice,syA,s1,s5,s34,s35,s36,f1,c1,decide_true,u1,hgl6,t1,hle,Mk.cells,nX,if_false,hg6]
       generalize hP:Qa.set (Qa.push H6 _) _ _=H7
       obtain⟨c7,hP⟩:∃c7,H7=(H6.push (.cells [.int .i64 0,.int .i64 0,.int .i64 0] c7 false)).set H6.next (.cells y.cells c7 false):=⟨_,hP.symm⟩
       have hx7:Ext H6 H7:=by rw[hP];exact((Ext.refl H6).push _).set (Nat.le_refl _) _
       have hw7:H7.Wf:=by rw[hP];exact(hw6.push _).set (by rw[Qa.get_push,if_pos rfl]) _
       clear hP
       have hy1:y.at_=a:=by omega
       have hx07:=hx6.trans hx7
       have ed:IntKind.i64.wrap (y.at_ - x.org)=((y.at_ - x.org).toNat:Int):=by rw[w64 (by unfold I64;omega)];omega
       have es:IntKind.i64.wrap (((y.at_ - x.org).toNat:Int)+y.size)=((y.at_ - x.org).toNat:Int)+y.size:=w64 (by unfold I64;omega)
       have hsz1:(y.at_ - x.org).toNat+y.size.toNat≤x.b.length:=by omega
       obtain⟨d,hd⟩:∃d,d=(y.at_ - x.org).toNat:=⟨_,rfl⟩
       obtain⟨z,hzs⟩:∃z,z=y.size.toNat:=⟨_,rfl⟩
       have hzi:y.size=(z:Int):=by omega
       rw[← hd]at ed es hsz1
       rw[← hzs]at hsz1
       obtain⟨bb,eb,rb,rfl,hgb⟩:=hb1 (by omega)
       have hbbl:=hw.lt hgb
       have hgb7:H7.get bb=some (.cells (u8v x.b) eb rb):=by rw[hx07.get _ hbbl];exact hgb
       obtain⟨hc1,hc2⟩:=hbc _ _ rfl
       have hlen:((x.b.drop d).take z).length=z:=by rw[List.length_take,List.length_drop];omega
       have hsl:∃cap',ZL 1 (.slice (some ⟨bb,0,none⟩) x.b.length bc) (some (d:Int)) (some ((d:Int)+y.size)) none=some (.slice (some ⟨bb,d,none⟩) z cap'):=by
        have q1:((d:Int)+y.size).toNat - (d:Int).toNat=z:=by omega
        have q2:0+(d:Int).toNat * 1=d:=by omega
        by_cases hu:UNK≤bc
        ·refine⟨bc,?_⟩
         have h0:(0:Int)≤(d:Int)∧(d:Int)≤(d:Int)+y.size∧(d:Int)+y.size≤(x.b.length:Int)∧bc=UNK+1:=by have:=hc1 hu;omega
         unfold ZL
         simp only[Option.getD_some]
         rw[if_pos hu,if_pos h0,q1,q2]
        ·have hk:=hc2 (by omega)
         refine⟨bc - d,?_⟩
         have h0:(0:Int)≤(d:Int)∧(d:Int)≤(d:Int)+y.size∧(d:Int)+y.size≤(bc:Int)∧(bc:Int)≤(bc:Int):=by omega
         have q3:¬ ((bc:Int).toNat=(d:Int).toNat):=by omega
         have q4:(bc:Int).toNat - (d:Int).toNat=bc - d:=by omega
         simp only[ZL,Option.getD_some,Option.getD_none,hu,if_false,h0,and_self,if_true,q1,q2,q3,q4]
       obtain⟨cap',hsl⟩:=hsl
       rw[ed,es]
       refine⟨_,hsl,?_⟩
       have hSl:SlO H7 (.slice (some ⟨bb,d,none⟩) z cap') ((x.b.drop d).take z).length (u8v ((x.b.drop d).take z)):=by
        rw[hlen]
        refine⟨_,_,rfl,fun _=>⟨bb,d,_,eb,rb,rfl,hgb7,fun i hi=>?_⟩⟩
        unfold u8v
        rw[List.getElem?_map,List.getElem?_map,List.getElem?_take,if_pos hi,List.getElem?_drop]
       have hmk:=QeG hT y y.line.toNat (by omega) (by omega) (by unfold I64;omega) ((x.b.drop d).take z) (.slice (some ⟨bb,d,none⟩) z cap') (by rw[hlen];omega) H7 (hT.q.ext _ _ hw hTH hx07) hSl
       refine hmk.thenW ?_
       rintro _ H8 _ hw8 ⟨rfl,hx8⟩
       have hx68:=hx7.trans hx8
       have hn68:=hx68.next
       have hL8:=hL.more hw6 hx68
       have hg8:H8.get H.next=some (.cells [.int .i64 x.org,.slice (some ⟨bb,0,none⟩) x.b.length bc,.slice sa x.syms.length sc,.slice (some ⟨b,0,none⟩) x.marks.length mc] c false):=by rw[hx68.get _ hlX];exact hg6
       simp only[sxA,sxB,Nat.reduceBEq,Nat.reduceEqDiff,reduceCtorEq,mxA,mxB,Nat.reduceAdd,reduceIte,Nat.reduceLeDiff,splice,syA,s5]
       generalize hP:Qa.push H8 _=H9
       have hx9:Ext H8 H9:=by rw[← hP];exact(Ext.refl H8).push _
       have hw9:H9.Wf:=by rw[← hP];exact hw8.push _
       have hg9s:H9.get H8.next=some (.cells [.string (mkS (J5 y.line y.at_ ((x.b.drop d).take z)))] 9 false):=by rw[← hP,Qa.get_push,if_pos rfl]
       clear hP
       have hL9:=hL8.more hw8 hx9
       have hn89:=hx9.next
       have hg9:H9.get H.next=some (.cells [.int .i64 x.org,.slice (some ⟨bb,0,none⟩) x.b.length bc,.slice sa x.syms.length sc,.slice (some ⟨b,0,none⟩) x.marks.length mc] c false):=by rw[hx9.get _ (by omega)];exact hg8
       refine Qmc hL9 ((hx6.trans hx68).trans hx9) hw9 (Vu hg9s (by decide) rfl) (by simp only[List.length_cons,List.length_append,List.length_map,List.length_take];omega) fun v' H10 hL10 hx10 hw10 hk10 hn10 hi10=>?_
       simp only[sxA,sxB,Nat.reduceBEq,Nat.reduceEqDiff,reduceCtorEq,mxA,mxB,Nat.reduceAdd,reduceIte,Nat.reduceLeDiff,splice,syA,s36,ei]
       refine⟨x.marks.length - (j+1),by omega,j+1,a+y.size,y.line,v',by omega,rfl,hw10,hx10,?_,fun hid=>?_,by rw[hk10 _ (by omega) hnb];exact hg9,⟨by omega,by omega,by omega,hmf⟩,?_,?_,?_,?_,?_⟩
       ·have:mkL x y=J5 y.line y.at_ ((x.b.drop d).take z):=by unfold mkL;rw[hd,hzs]
        rw[htk,List.map_append,List.map_cons,List.map_nil,this]
        simpa using hL10
       ·have:=hi10 _ hid;omega
       all_goals simp only[uxA,uxB,Nat.reduceBEq,s1,s34,s35]
     ·have f1:decide ((j:Int)<(x.marks.length:Int))=false:=decide_eq_false (by omega)
      have hje:j=x.marks.length:=by omega
      subst hje
      rw[List.take_length]at hL
      simp only[Zm,sxA,sxB,Nat.reduceBEq,Nat.reduceEqDiff,reduceCtorEq,mxA,mxB,Nat.reduceAdd,reduceIte,Nat.reduceLeDiff,splice,syA,s1,s5,s34,s35,s36,f1,GC]
      exact .mk hx6.next ⟨hx6,.inr ⟨hz,v,rfl,hL⟩⟩
theorem KJ:∀d,d<16→YE (Qs d).toNat=d∧Jy (Qs d).toNat=true∧Qs d≠95∧Qs d≠39:=by decide
theorem Qch (b:Nat) (hb:2≤b∧b≤16):∀u:Nat,∀c∈dgs b u,∃d,d<b∧c=Qs d:=by
 intro u
 induction u using Nat.strongRecOn with
 | ind u ih=>
  by_cases h:u<b
  ·rw[Gg h];intro c hc;simp at hc;exact⟨u,h,hc⟩
  ·rw[QaD (by omega) hb.1]
   intro c hc
   rcases List.mem_append.1 hc with hc | hc
   ·exact ih (u / b) (Nat.div_lt_self (by omega) (by omega)) c hc
   ·simp at hc;exact⟨u % b,Nat.mod_lt _ (by omega),hc⟩
def evD (b:Nat) (l:List UInt8) (a:Nat):Nat:=l.foldl (fun a c=>a * b+YE c.toNat) a
theorem QeQ (b:Nat) (hb:b≤16):∀ (l:List UInt8) (prev:Bool) (pos acc:Nat),(∀c∈l,∃d,d<b∧c=Qs d)→ZE b l prev pos acc=.inr (evD b l acc)
 | [],_,_,_,_=>rfl
 | c::l,prev,pos,acc,h=>by
  obtain⟨d,hd,hc⟩:=h c (by simp)
  obtain⟨h1,h2,h3,h4⟩:=KJ d (by omega)
  have e1:(c==95)=false:=beq_eq_false_iff_ne.2 (by rw[hc];exact h3)
  have e2:Nat.blt (YE c.toNat) b=true:=by rw[Nat.blt_eq,hc,h1];exact hd
  rw[ZE,e1,e2]
  show ZE b l false (pos+1) (acc * b+YE c.toNat)=_
  rw[QeQ b hb l false _ _ fun x hx=>h x (by simp[hx])]
  rfl
theorem QjL (b:Nat) (hb:2≤b∧b≤16):∀u:Nat,evD b (dgs b u) 0=u:=by
 intro u
 induction u using Nat.strongRecOn with
 | ind u ih=>
  by_cases h:u<b
  ·rw[Gg h]
   show 0 * b+YE (Qs u).toNat=u
   rw[(KJ u (by omega)).1];omega
  ·rw[QaD (by omega) hb.1]
   unfold evD
   rw[List.foldl_append]
   have:=ih (u / b) (Nat.div_lt_self (by omega) (by omega))
   unfold evD at this
   rw[this]
   have hm:=Nat.mod_lt u (show 0<b by omega)
   show u / b * b+YE (Qs (u % b)).toNat=u
   rw[(KJ (u % b) (by omega)).1,Nat.mul_comm]
   exact Nat.div_add_mod u b
theorem QcX {p:UInt8→Bool}:∀ {l:List UInt8},(∀c∈l,p c=true)→l.takeWhile p=l
 | [],_=>rfl
 | c::l,h=>by rw[List.takeWhile_cons,if_pos (h c (by simp)),QcX fun x hx=>h x (by simp[hx])]
theorem Qmd (u:Nat) (hu:u<18446744073709551616):QeA (48::120::dgs 16 u)=.inr u:=by
 have hb:Wh (48::120::dgs 16 u)=(16,2,(48::120::dgs 16 u).length):=by
  cases h:dgs 16 u with
  | nil=>exact absurd h (QgI 16 u)
  | cons a l=>rfl
 unfold QeA
 rw[hb]
 simp only
 have hd:((48::120::dgs 16 u:List UInt8).take (48::120::dgs 16 u:List UInt8).length).drop 2=dgs 16 u:=by rw[List.take_length];rfl
 rw[hd,QeQ 16 (by decide) _ _ _ _ (Qch 16 (by decide) u),QjL 16 (by decide)]
 have hne:(dgs 16 u).isEmpty=false:=by
  cases h:dgs 16 u with
  | nil=>exact absurd h (QgI 16 u)
  | cons a l=>rfl
 have hle:Nat.ble 18446744073709551616 u=false:=by
  cases h:Nat.ble 18446744073709551616 u with
  | false=>rfl
  | true=>rw[Nat.ble_eq]at h;omega
 simp only[hne,hle]
 rfl
theorem QhO (u:Nat) (hu:u<18446744073709551616):WR (48::120::dgs 16 u) 0=⟨IntKind.i64.wrap u,(((48::120::dgs 16 u:List UInt8).length:Nat):Int),0,0⟩:=by
 have hw:(48::120::dgs 16 u:List UInt8).takeWhile (fun b=>Jy b.toNat)=48::120::dgs 16 u:=QcX fun c hc=>by
  rcases List.mem_cons.1 hc with rfl | hc
  ·rfl
  ·rcases List.mem_cons.1 hc with rfl | hc
   ·rfl
   ·obtain⟨d,hd,rfl⟩:=Qch 16 (by decide) u c hc
    exact(KJ d hd).2.1
 show(let w:=(48::120::dgs 16 u:List UInt8).takeWhile (fun b=>Jy b.toNat)
  match QeA w with
  | .inl (e,p)=>(⟨0,0,e,((p+0:Nat):Int)⟩:Sc)
  | .inr n=>⟨IntKind.i64.wrap n,((0+w.length:Nat):Int),0,0⟩)=_
 rw[hw]
 simp only
 rw[Qmd u hu]
 simp only[Nat.zero_add]
theorem QhP {w:List UInt8} (h:(w.take 1==[45])=false):Gh w [45]=w:=by
 unfold Gh
 rw[show([45]:List UInt8).length=1 from rfl,h,if_neg (by simp)]
theorem QeR (n:Int) (hn:I64 n):Qh (Yn n)=n:=by
 unfold I64 at hn
 by_cases h:n<0
 ·have e:Yn n=45::48::120::dgs 16 n.natAbs:=by unfold Yn GQ;rw[if_pos h];rfl
  have ht:((Yn n).take 1==[45])=true:=by rw[e];rfl
  have hc:Gh (Yn n) [45]=48::120::dgs 16 n.natAbs:=by
   unfold Gh
   rw[show([45]:List UInt8).length=1 from rfl,ht,if_pos rfl,e];rfl
  have hs:=QhO n.natAbs (by omega)
  unfold Qh okW
  rw[hc,hs,ht]
  simp only[beq_self_eq_true,Bool.and_self,if_true]
  rw[IntKind.wrap_i64,IntKind.wrap_i64]
  omega
 ·have e:Yn n=48::120::dgs 16 n.natAbs:=by unfold Yn GQ;rw[if_neg h];rfl
  have ht:((Yn n).take 1==[45])=false:=by rw[e];rfl
  have hs:=QhO n.natAbs (by omega)
  unfold Qh okW
  rw[QhP ht,ht,e,hs]
  simp only[beq_self_eq_true,Bool.and_self,if_true,Bool.false_eq_true,if_false]
  rw[IntKind.wrap_i64]
  omega
theorem QgR {w:List UInt8} {c d:UInt8} (h:∀x∈w,x≠c∧x≠d):G4 w c d=false:=by
 unfold G4
 split
 ·rename_i a b e l
  have:=h b (by simp)
  simp[this.1,this.2]
 ·rfl
theorem QjM {w:List UInt8} {c:UInt8} (h:∀x∈w,x≠c):(w.getLast? == some c)=false:=by
 refine beq_eq_false_iff_ne.2 fun he=>?_
 exact h c (List.mem_of_getLast? he) rfl
theorem QkB (u:Nat):Wh (dgs 10 u)=(10,0,(dgs 10 u).length):=by
 have hd:∀d,d<10→Qs d≠120∧Qs d≠88∧Qs d≠98∧Qs d≠66∧Qs d≠111∧Qs d≠79∧Qs d≠104∧Qs d≠72:=by decide
 have ha:∀c∈dgs 10 u,c≠120∧c≠88∧c≠98∧c≠66∧c≠111∧c≠79∧c≠104∧c≠72:=fun c hc=>by
  obtain⟨d,h1,rfl⟩:=Qch 10 (by decide) u c hc
  exact hd d h1
 unfold Wh
 rw[QgR fun x hx=>⟨(ha x hx).1,(ha x hx).2.1⟩,QjM fun x hx=>(ha x hx).2.2.2.2.2.2.1,QjM fun x hx=>(ha x hx).2.2.2.2.2.2.2,QgR fun x hx=>⟨(ha x hx).2.2.1,(ha x hx).2.2.2.1⟩,QgR fun x hx=>⟨(ha x hx).2.2.2.2.1,(ha x hx).2.2.2.2.2.1⟩]
 rfl
theorem Qme (u:Nat) (hu:u<18446744073709551616):QeA (dgs 10 u)=.inr u:=by
 unfold QeA
 rw[QkB]
 simp only
 have hd:((dgs 10 u).take (dgs 10 u).length).drop 0=dgs 10 u:=by rw[List.take_length];rfl
 rw[hd,QeQ 10 (by decide) _ _ _ _ (Qch 10 (by decide) u),QjL 10 (by decide)]
 have hne:(dgs 10 u).isEmpty=false:=by
  cases h:dgs 10 u with
  | nil=>exact absurd h (QgI 10 u)
  | cons a l=>rfl
 have hle:Nat.ble 18446744073709551616 u=false:=by
  cases h:Nat.ble 18446744073709551616 u with
  | false=>rfl
  | true=>rw[Nat.ble_eq]at h;omega
 simp only[hne,hle]
 rfl
theorem Qmf (u:Nat) (hu:u<18446744073709551616):WR (dgs 10 u) 0=⟨IntKind.i64.wrap u,(((dgs 10 u).length:Nat):Int),0,0⟩:=by
 have hall:=Qch 10 (by decide) u
 have hn:=Qme u hu
 have hne:=QgI 10 u
 have hw:(dgs 10 u).takeWhile (fun b=>Jy b.toNat)=dgs 10 u:=QcX fun c hc=>by
  obtain⟨d,hd,rfl⟩:=hall c hc
  exact(KJ d (by omega)).2.1
 generalize dgs 10 u=w at *
 cases w with
 | nil=>exact absurd rfl hne
 | cons c r=>
  obtain⟨d,hd,hc⟩:=hall c (by simp)
  obtain⟨h1,h2,h3,h4⟩:=KJ d (by omega)
  have e1:(c==39)=false:=beq_eq_false_iff_ne.2 (by rw[hc];exact h4)
  have e2:Nat.blt 9 (YE c.toNat)=false:=by
   cases h:Nat.blt 9 (YE c.toNat) with
   | false=>rfl
   | true=>rw[Nat.blt_eq,hc,h1]at h;omega
  unfold WR
  simp only[List.drop_zero,e1,e2,cond_false,hw,hn,Nat.zero_add]
theorem Qmg (n:Int) (h0:0≤n) (hn:I64 n):Qh (Z7 n)=n:=by
 unfold I64 at hn
 have e:Z7 n=dgs 10 n.natAbs:=by unfold Z7 GQ;rw[if_neg (by omega)];rfl
 have ht:((Z7 n).take 1==[45])=false:=beq_eq_false_iff_ne.2 (Qf1 h0)
 have hs:=Qmf n.natAbs (by omega)
 unfold Qh okW
 rw[QhP ht,ht,e,hs]
 simp only[beq_self_eq_true,Bool.and_self,if_true,Bool.false_eq_true,if_false]
 rw[IntKind.wrap_i64]
 omega
theorem QcY:∀ (l:List Mk) (a e ln o:Int),Wy l a e ln=true→o≤a→∀m∈l,o≤m.at_∧1≤m.size∧m.at_+m.size≤e∧ln≤m.line∧m.line≤1048576
 | [],_,_,_,_,_,_,m,hm=>by simp at hm
 | m0::l,a,e,ln,o,h,ho,m,hm=>by
  rw[Wy]at h
  split at h
  ·cases h
  ·rename_i hn
   rcases List.mem_cons.1 hm with rfl | hm
   ·omega
   ·have:=QcY l _ e m0.line o h (by omega) m hm
    omega
theorem Qmh {x x':Im} {m:Mk} {z:List UInt8} (hb:x'.b=x.b++z) (ho:x'.org=x.org) (h:x.org≤m.at_∧1≤m.size∧m.at_+m.size≤x.org+x.b.length):mkL x' m=mkL x m:=by
 unfold mkL
 rw[hb,ho,List.drop_append_of_le_length (by omega),List.take_append_of_le_length (by rw[List.length_drop];omega)]
theorem Qi2 {x:Im} {n at_:Int} {z:List UInt8} (hc:ZF x) (hat:at_=x.org+x.b.length):Yg {x with b:=x.b++z,marks:=x.marks++[⟨n,at_,(z.length:Int)⟩]}=Yg x++[J5 n at_ z]:=by
 obtain⟨_,_,_,hm⟩:=hc
 have hin:=QcY _ _ _ _ x.org hm (Int.le_refl _)
 unfold Yg
 simp only[List.map_append,List.map_cons,List.map_nil,List.cons_append,List.append_assoc]
 congr 2
 have h1:x.marks.map (mkL {x with b:=x.b++z,marks:=x.marks++[⟨n,at_,(z.length:Int)⟩]})=x.marks.map (mkL x):=List.map_congr_left fun m hm=>Qmh rfl rfl ⟨(hin m hm).1,(hin m hm).2.1,(hin m hm).2.2.1⟩
 have h2:mkL {x with b:=x.b++z,marks:=x.marks++[⟨n,at_,(z.length:Int)⟩]} ⟨n,at_,(z.length:Int)⟩=J5 n at_ z:=by
  unfold mkL
  simp only
  rw[show(at_ - x.org).toNat=x.b.length by omega,List.drop_append_of_le_length (Nat.le_refl _),List.drop_length,List.nil_append,Int.toNat_natCast,List.take_length]
 rw[h1,h2]
theorem Qi3 {g g':Option Stg} {x x':Im} {s:List UInt8} {g1:Stg} (hG:GM g x) (h:goS g x s=some (g1,x')):Yg x'=(if g=none then[s] else Yg x++[s]):=by
 have hmark:∀x:Im,ZF x→Kt x s=some (g1,x')→Yg x'=Yg x++[s]:=fun x hc h=>by
  have h4:(Qc s).length=4:=by
   cases hd:decide ((Qc s).length=4) with
   | true=>exact of_decide_eq_true hd
   | false=>rw[QcV (of_decide_eq_false hd)]at h;cases h
  obtain⟨w0,w1,w2,w3,hw⟩:=QoF h4
  obtain⟨m1,m2⟩:=QcT (x:=x) hw hc.1.1
  by_cases hk:w0=Kv∧MC x w1 w2 w3
  ·rw[m1 hk]at h
   cases h
   obtain⟨h0,⟨q1,q2,q3⟩,q4,q5,q6,q7,q8,q9,q10⟩:=hk
   have hs:=(ZG s).1
   rw[hw]at hs
   have e:MX x w1 w2 w3={x with b:=x.b++YM w3,marks:=x.marks++[⟨Qh w1,Qh w2,((YM w3).length:Int)⟩]}:=by unfold MX;rw[QaJ]
   rw[e,Qi2 hc q8,VP,q5,q4,← q3,← h0,hs]
  ·rw[m2 hk]at h;cases h
 match g,hG with
 | none,hG=>
  have hG:x=im0:=hG
  subst hG
  rw[if_pos rfl]
  have h:Qcd im0 s=some (g1,x'):=h
  unfold Qcd at h
  split at h
  ·split at h
   ·rename_i hc
    cases h
    have:=beq_iff_eq.1 hc.1
    show[VO _]=[s]
    rw[← this]
   ·cases h
  ·cases h
 | some .mark,hG=>exact hmark x hG.1 h
 | some .sym,hG=>
  obtain⟨hc,hm0⟩:=hG
  have h:Qcf x s=some (g1,x'):=h
  unfold Qcf at h
  split at h
  ·exact hmark x hc h
  ·split at h
   ·unfold Vx at h
    split at h
    ·rename_i hk
     cases h
     have:=beq_iff_eq.1 hk.1
     rw[if_neg (by simp)]
     unfold Yg
     simp only[hm0,List.map_nil,List.append_nil,List.map_append,List.map_cons,List.cons_append]
     rw[← this]
    ·cases h
   ·cases h
theorem QeS:∀ (l:List (List UInt8)) (g:Option Stg) (x z:Im) (i:Nat),GM g x→YF g x i l=.ok z→(l=[]∧z=x)∨(l≠[]∧Yg z=(if g=none then l else Yg x++l)∧ZF z)
 | [],g,x,z,i,hG,h=>by
  cases g<;>(rw[YF]at h;cases h;exact .inl ⟨rfl,rfl⟩)
 | s::l,g,x,z,i,hG,h=>by
  have ha:=GS g x s hG
  rw[YF]at h
  cases hgo:goS g x s with
  | none=>rw[hgo]at h;cases h
  | some r=>
   obtain⟨g1,x1⟩:=r
   rw[hgo]at h ha
   simp only at h
   have hst:=Qi3 (g':=none) hG hgo
   obtain⟨_,hc1,hG1⟩:=ha
   right
   refine⟨by simp,?_⟩
   rcases QeS l (some g1) x1 z (i+1) hG1 h with⟨rfl,rfl⟩ | ⟨_,h2,h3⟩
   ·refine⟨?_,hc1⟩
    rw[hst]
   ·refine⟨?_,h3⟩
    rw[if_neg (by simp)]at h2
    rw[h2,hst]
    split<;>simp
theorem QkC {l:List (List UInt8)} {z:Im} (h:Ku l=.ok z):Yg z=l∧ZF z:=by
 unfold Ku at h
 split at h
 ·cases h
 ·rename_i hl
  rcases QeS l none im0 z 0 rfl h with⟨h1,_⟩ | ⟨_,h2,h3⟩
  ·exact absurd h1 hl
  ·rw[if_pos rfl]at h2;exact⟨h2,h3⟩
theorem Qf6:∀ (l:List (List UInt8)) (g:Option Stg) (x:Im) (i n:Nat),YF g x i l=.error n→1≤n∧n≤i+l.length
 | [],g,x,i,n,h=>by cases g<;>(rw[YF]at h;cases h)
 | s::l,g,x,i,n,h=>by
  rw[YF]at h
  split at h
  ·cases h;simp only[List.length_cons];omega
  ·have:=Qf6 l _ _ _ _ h
   simp only[List.length_cons];omega
theorem QkD {l:List (List UInt8)} {n:Nat} (h:Ku l=.error n):1≤n∧n≤l.length+1:=by
 unfold Ku at h
 split at h
 ·cases h;omega
 ·have:=Qf6 l _ _ _ _ h;omega
theorem Qf7:∀d,d<16→Zt (Qs d).toNat=d:=by decide
theorem QcZ:∀b:List UInt8,YM (XK b)=b
 | []=>rfl
 | c::b=>by
  have hc:=c.toNat_lt
  have e:XK (c::b)=Qs (c.toNat / 16)::Qs (c.toNat % 16)::XK b:=rfl
  rw[e,YM,Qf7 _ (by omega),Qf7 _ (by omega),QcZ b,show 16 * (c.toNat / 16)+c.toNat % 16=c.toNat by omega]
  congr 1
  exact UInt8.toNat_inj.1 (by show c.toNat % 256=c.toNat;omega)
theorem Z8 (l:List UInt8):(XK l).length=2 * l.length:=by
 unfold XK
 induction l with
 | nil=>rfl
 | cons c l ih=>rw[List.flatMap_cons,List.length_append,ih];simp;omega
theorem QeT {c:UInt8} (h:Jz c.toNat=true):c≠32:=by
 intro hc
 subst hc
 revert h
 decide
theorem QbG {w:List UInt8} (h:V4 w=true):QgQ w∧w.length≤60:=by
 cases w with
 | nil=>cases h
 | cons b0 l0=>
  have e:V4 (b0::l0)=(decide (l0.length<60)&&G5 b0.toNat&&l0.all fun b=>Jz b.toNat):=rfl
  rw[e,Bool.and_eq_true,Bool.and_eq_true]at h
  obtain⟨⟨h1,h2⟩,h3⟩:=h
  refine⟨fun c hc=>?_,by have:=of_decide_eq_true h1;simp only[List.length_cons];omega⟩
  rcases List.mem_cons.1 hc with rfl | hc
  ·exact QeT (QeI h2)
  ·exact QeT (List.all_eq_true.1 h3 c hc)
theorem Qi4 (n a:Int) (z:List UInt8):Qc (J5 n a z)=[Kv,Z7 n,Yn a,XK z]:=by
 rw[VP]
 refine Gi _ (by simp) fun w hw=>?_
 simp only[List.mem_cons,List.not_mem_nil,or_false]at hw
 rcases hw with rfl | rfl | rfl | rfl
 ·exact(show ∀c∈Kv,c≠32 by decide)
 ·exact QfY _
 ·exact KI _
 ·exact QeL _
theorem QkE (y:Sy) (hn:V4 y.name=true):Qc (Qba y)=[Qfi,y.name,Yn y.n,if y.here then Vy else G6]:=by
 rw[Qf3]
 refine Gi _ (by simp) fun w hw=>?_
 simp only[List.mem_cons,List.not_mem_nil,or_false]at hw
 rcases hw with rfl | rfl | rfl | rfl
 ·exact(show ∀c∈Qfi,c≠32 by decide)
 ·exact(QbG hn).1
 ·exact KI _
 ·split
  ·exact(show ∀c∈Vy,c≠32 by decide)
  ·exact(show ∀c∈G6,c≠32 by decide)
theorem Qnz {x:Im} {y:Sy} (hi:I64 y.n) (hn:V4 y.name=true) (hk:x.syms.length≠20000) (hl:∀p,x.syms.getLast? = some p→Sy.le y.name p.name=false):goS (some .sym) x (Qba y)=some (.sym,{x with syms:=x.syms++[y]}):=by
 have hw:=QkE y hn
 show Qcf x (Qba y)=_
 unfold Qcf
 rw[if_neg (fun h=>by have:=(Qmb hw).1 h;revert this;decide),hw]
 simp only
 have hi2:=QeR y.n hi
 have h3:((if y.here then Vy else G6)==Vy)=y.here:=by cases y.here<;>decide
 rw[(QhN (x:=x) hw).1 ⟨rfl,by rw[hi2],by split<;>simp,hn,hk,hl⟩]
 unfold SX
 rw[hi2,h3]
theorem Qf8:∀ (ys:List Sy) (x:Im) (rest:List (List UInt8)) (i:Nat),QcP (x.syms++ys)→(x.syms++ys).length≤20000→(∀y∈ys,I64 y.n)→YF (some .sym) x i (ys.map Qba++rest)=YF (some .sym) {x with syms:=x.syms++ys} (i+ys.length) rest
 | [],x,rest,i,_,_,_=>by simp
 | y::ys,x,rest,i,ho,hl,hi=>by
  have e:x.syms++y::ys=(x.syms++[y])++ys:=by simp
  have hpre:QcP (x.syms++[y]):=fun j z hz=>by
   have hjl:=(List.getElem?_eq_some_iff.1 hz).1
   obtain⟨h1,h2⟩:=ho j z (by rw[e,List.getElem?_append_left hjl];exact hz)
   exact⟨h1,fun p hp0 hp=>h2 p hp0 (by rw[e,List.getElem?_append_left (by omega)];exact hp)⟩
  obtain⟨q1,q2,q3⟩:=(QaM _ _).1 hpre
  rw[List.length_append,List.length_cons]at hl
  rw[List.map_cons,List.cons_append,YF,Qnz (hi y (by simp)) q2 (by omega) fun p hp=>(QaL _ _).1 (q3 p hp)]
  simp only
  rw[Qf8 ys _ rest (i+1) (by simp only;rw[← e];exact ho) (by simp only[List.length_append,List.length_cons,List.length_nil];omega) fun z hz=>hi z (by simp[hz])]
  simp only[List.append_assoc,List.singleton_append,List.length_cons]
  rw[show i+1+ys.length=i+(ys.length+1) by omega]
theorem Qdo:∀ (l:List Mk) (k:Int) (m:Mk),Kj k (l++[m])=m.line
 | [],_,_=>rfl
 | a::l,_,m=>by rw[List.cons_append,Kj];exact Qdo l _ m
theorem QeU (x:Im) (hb:x.b.length≤1048576) (ho:0≤x.org∧x.org≤140737488355328):∀ (ms dn:List Mk) (a ln:Int) (g:Stg) (i:Nat),Wy ms a (x.org+x.b.length) ln=true→x.org≤a→a≤x.org+x.b.length→Kj 1 dn=ln→1≤ln→(dn++ms).length≤20000→YF (some g) {x with b:=x.b.take (a - x.org).toNat,marks:=dn} i (ms.map (mkL x))=.ok {x with marks:=dn++ms}
 | [],dn,a,ln,g,i,h,h1,h2,h3,h4,h5=>by
  rw[Wy,beq_iff_eq]at h
  have e:(a - x.org).toNat=x.b.length:=by omega
  rw[List.map_nil,e,List.take_length,List.append_nil]
  cases g<;>rfl
 | m::ms,dn,a,ln,g,i,h,h1,h2,h3,h4,h5=>by
  rw[Wy]at h
  split at h
  ·cases h
  ·rename_i hn
   obtain⟨d,hd⟩:∃d,d=(a - x.org).toNat:=⟨_,rfl⟩
   obtain⟨z,hz⟩:∃z,z=m.size.toNat:=⟨_,rfl⟩
   have hat:m.at_=a:=by omega
   have emk:mkL x m=J5 m.line m.at_ ((x.b.drop d).take z):=by unfold mkL;rw[hat,← hd,← hz]
   have hzl:((x.b.drop d).take z).length=z:=by rw[List.length_take,List.length_drop];omega
   have htl:(x.b.take d).length=d:=by rw[List.length_take];omega
   have hw:=Qi4 m.line m.at_ ((x.b.drop d).take z)
   have hnd:=Qmg m.line (by omega) (by unfold I64;omega)
   have hnh:=QeR m.at_ (by unfold I64;omega)
   rw[List.length_append,List.length_cons]at h5
   rw[List.map_cons,emk,← hd]
   have hmc:MC {x with b:=x.b.take d,marks:=dn} (Z7 m.line) (Yn m.at_) (XK ((x.b.drop d).take z)):=by
    refine⟨⟨?_,?_,?_⟩,by rw[hnh],by rw[hnd],?_,?_,?_,?_,?_⟩
    ·rw[Z8,hzl];omega
    ·rw[Z8];omega
    ·rw[QcZ]
    ·rw[hnd,Qcg];simp only;omega
    ·rw[hnd];omega
    ·rw[hnh];simp only;omega
    ·rw[Z8,hzl];simp only;omega
    ·simp only;omega
   have hmk:=(QcT (x:={x with b:=x.b.take d,marks:=dn}) hw (by simp only;omega)).1 ⟨rfl,hmc⟩
   have hgo:goS (some g) {x with b:=x.b.take d,marks:=dn} (J5 m.line m.at_ ((x.b.drop d).take z))=some (.mark,MX {x with b:=x.b.take d,marks:=dn} (Z7 m.line) (Yn m.at_) (XK ((x.b.drop d).take z))):=by
    cases g with
    | mark=>exact hmk
    | sym=>
     show Qcf _ _=_
     unfold Qcf
     rw[if_pos ((Qmb hw).2 rfl)]
     exact hmk
   have hmx:MX {x with b:=x.b.take d,marks:=dn} (Z7 m.line) (Yn m.at_) (XK ((x.b.drop d).take z))={x with b:=x.b.take (a+m.size - x.org).toNat,marks:=dn++[m]}:=by
    unfold MX
    simp only
    rw[QcZ,hnd,hnh,Z8,hzl,show(a+m.size - x.org).toNat=d+z by omega,List.take_add,show((2 * z / 2:Nat):Int)=m.size by omega]
   rw[YF,hgo]
   simp only
   rw[hmx,QeU x hb ho ms (dn++[m]) (a+m.size) m.line .mark (i+1) h (by omega) (by omega) (Qdo _ _ _) (by omega) (by simp only[List.length_append,List.length_cons,List.length_nil];omega)]
   simp
theorem Qi5 {x:Im} (hc:ZF x) (hi:∀y∈x.syms,I64 y.n):Ku (Yg x)=.ok x:=by
 obtain⟨⟨c1,c2,c3⟩,⟨c4,c5⟩,c6,c7⟩:=hc
 unfold Ku Yg
 rw[if_neg (by simp),YF]
 have hwo:Qc (VO x.org)=[[111,114,103],Yn x.org]:=by
  rw[show VO x.org=W1 [[111,114,103],Yn x.org] by simp[VO,W1]]
  refine Gi _ (by simp) fun w hw=>?_
  simp only[List.mem_cons,List.not_mem_nil,or_false]at hw
  rcases hw with rfl | rfl
  ·exact(show ∀c∈([111,114,103]:List UInt8),c≠32 by decide)
  ·exact KI _
 have hno:=QeR x.org (by unfold I64;omega)
 have hgo:goS none im0 (VO x.org)=some (.sym,{im0 with org:=x.org}):=by
  show Qcd im0 (VO x.org)=_
  unfold Qcd
  rw[hwo]
  simp only
  rw[hno,if_pos ⟨by simp,c4,c5⟩]
 rw[hgo]
 simp only
 rw[Qf8 x.syms {im0 with org:=x.org} _ _ (by simpa[im0] using c6) (by simpa[im0] using c2) hi]
 have h:=QeU x c1 ⟨c4,c5⟩ x.marks [] x.org 1 .sym (0+1+x.syms.length) c7 (Int.le_refl _) (by omega) rfl (Int.le_refl _) (by simpa using c3)
 have e:({im0 with org:=x.org,syms:=im0.syms++x.syms}:Im)={x with b:=x.b.take (x.org - x.org).toNat,marks:=[]}:=by
  simp[im0]
 simp only at e ⊢
 rw[e,h]
 rfl
theorem Qfk (l:List Sy) (v:Value) (H:Qa) (hs:YD H v l.length (YV l)):Qf prog WV [v,.int .i64 40] H fun u H'=>(∃t:Bool,u=.bool t∧(t=false→l.length≤40∧∀y∈l,y.name.length≤100))∧H'=H:=by
 refine K4 fun hw=>?_
 obtain⟨a,cap,rfl,hla⟩:=hs
 simp only[YA,sxA,sxB,Nat.reduceBEq,Nat.reduceEqDiff,reduceCtorEq,mxA,mxB,Nat.reduceAdd,reduceIte,Nat.reduceLeDiff,splice]
 refine QC (fun m A' H'=>∃i:Nat,i≤l.length∧i≤41∧m=41 - i∧H'=H∧(∀y∈l.take i,y.name.length≤100)∧A' 0=.slice a l.length cap∧A' 1=.int .i64 40∧A' 5=.int .i64 i) 41 ?_ ?_
 ·refine⟨0,Nat.zero_le _,by omega,rfl,rfl,fun s hs=>by simp at hs,?_,?_,?_⟩
  all_goals simp only[uxA,uxB,Nat.reduceBEq]
  all_goals rfl
 ·rintro m A' H' ⟨i,hi,hi41,rfl,hEq,hall,r0,r1,r5⟩
  subst hEq
  have last:∀A:Env,A 4=.bool (decide ((40:Int)<(l.length:Int)))→(l.length≤40→i=l.length)→Rt prog Gm H' (fun u H'_1=>(∃t:Bool,u=.bool t∧(t=false→l.length≤40∧∀y∈l,y.name.length≤100))∧H'_1=H') A H':=fun A q2 hend=>by
   rw[Yl,q2]
   refine .mk (Nat.le_refl _) ⟨⟨_,rfl,fun h=>?_⟩,rfl⟩
   have h:=of_decide_eq_false h
   have h80:l.length≤40:=by omega
   refine⟨h80,?_⟩
   have:=hend h80
   rw[this,List.take_length]at hall
   exact hall
  by_cases h2:i<l.length
  ·have e1:decide ((i:Int)<(l.length:Int))=true:=decide_eq_true (by omega)
   by_cases h3:i≤40
   ·have e3:decide ((i:Int)≤40)=true:=decide_eq_true (by omega)
    have c1:(0:Int)≤(i:Int)∧(i:Int)<(l.length:Int):=by omega
    have u1:(i:Int).toNat=i:=Int.toNat_natCast _
    have ei:IntKind.i64.wrap ((i:Int)+1)=((i+1:Nat):Int):=by rw[w64 (by unfold I64;omega)];rfl
    obtain⟨b,e,ro,rfl,hgl⟩:=hla (by omega)
    have p1:=List.getElem?_eq_getElem h2
    have htk:l.take (i+1)=l.take i++[l[i]]:=by rw[List.take_add_one,p1];rfl
    generalize l[i]=s at *
    have p2:=QgP p1
    rw[Nat.add_zero]at p2
    simp only[QS,X4,sxA,sxB,Nat.reduceBEq,Nat.reduceEqDiff,reduceCtorEq,mxA,mxB,Nat.reduceAdd,reduceIte,Nat.reduceLeDiff,splice,syA,r0,r1,r5,e1,e3,c1,decide_true,u1,hgl,p2,Qe,Qb]
    by_cases h4:(100:Int)<(s.name.length:Int)
    ·simp only[sxA,sxB,Nat.reduceBEq,Nat.reduceEqDiff,reduceCtorEq,mxA,mxB,Nat.reduceAdd,reduceIte,Nat.reduceLeDiff,splice,decide_eq_true h4,Yl]
     exact .mk (Nat.le_refl _) ⟨⟨true,rfl,fun h=>nomatch h⟩,rfl⟩
    ·simp only[sxA,sxB,Nat.reduceBEq,Nat.reduceEqDiff,reduceCtorEq,mxA,mxB,Nat.reduceAdd,reduceIte,Nat.reduceLeDiff,splice,decide_eq_false h4,r5,ei]
     refine⟨41 - (i+1),by omega,i+1,by omega,by omega,rfl,rfl,?_,?_,?_,?_⟩
     ·rw[htk]
      intro z hz
      rcases List.mem_append.1 hz with hz | hz
      ·exact hall z hz
      ·simp at hz;subst hz;omega
     all_goals simp only[uxA,uxB,Nat.reduceBEq,r0,r1]
   ·have e3:decide ((i:Int)≤40)=false:=decide_eq_false (by omega)
    simp only[QS,sxA,sxB,Nat.reduceBEq,Nat.reduceEqDiff,reduceCtorEq,mxA,mxB,Nat.reduceAdd,reduceIte,Nat.reduceLeDiff,splice,r0,r1,r5,e1,e3,Qb]
    refine last _ ?_ (by omega)
    simp only[uxA,uxB,Nat.reduceBEq]
  ·have e1:decide ((i:Int)<(l.length:Int))=false:=decide_eq_false (by omega)
   simp only[QS,sxA,sxB,Nat.reduceBEq,Nat.reduceEqDiff,reduceCtorEq,mxA,mxB,Nat.reduceAdd,reduceIte,Nat.reduceLeDiff,splice,r0,r1,r5,e1,Qb]
   refine last _ ?_ (by omega)
   simp only[uxA,uxB,Nat.reduceBEq]
theorem QhR (va vb:Value) (l:List (List UInt8)) (hn:l.length≤1000000) (H:Qa) (ha:YD H va l.length (YU l)) (hb:YD H vb l.length (YU l)):Qf prog Xw [va,vb] H fun u H'=>u=.bool true∧H'=H:=by
 refine GZ fun hw=>?_
 obtain⟨aa,ac,rfl,ha⟩:=ha
 obtain⟨ba,bc,rfl,hb⟩:=hb
 simp only[Y1,sxA,sxB,Nat.reduceBEq,Nat.reduceEqDiff,reduceCtorEq,mxA,mxB,Nat.reduceAdd,reduceIte,Nat.reduceLeDiff,splice,Qb,beq_self_eq_true,Yz]
 refine QC (fun m A' H'=>∃i:Nat,i≤l.length∧m=l.length - i∧H'=H∧A' 0=.slice aa l.length ac∧A' 1=.slice ba l.length bc∧A' 5=.int .i64 i) l.length ?_ ?_
 ·refine⟨0,Nat.zero_le _,rfl,rfl,?_,?_,?_⟩
  all_goals simp only[uxA,uxB,Nat.reduceBEq]
  all_goals rfl
 ·rintro m A' H' ⟨i,hi,rfl,hEq,r0,r1,r5⟩
  subst hEq
  by_cases h2:i<l.length
  ·have e1:decide ((i:Int)<(l.length:Int))=true:=decide_eq_true (by omega)
   have c1:(0:Int)≤(i:Int)∧(i:Int)<(l.length:Int):=by omega
   have u1:(i:Int).toNat=i:=Int.toNat_natCast _
   have ei:IntKind.i64.wrap ((i:Int)+1)=((i+1:Nat):Int):=by rw[w64 (by unfold I64;omega)];rfl
   obtain⟨b1,e1',ro1,rfl,hg1⟩:=ha (by omega)
   obtain⟨b2,e2',ro2,rfl,hg2⟩:=hb (by omega)
   have p1:=List.getElem?_eq_getElem h2
   generalize l[i]=y at *
   have p2:=Qez p1
   simp only[WH,Yy,sxA,sxB,Nat.reduceBEq,Nat.reduceEqDiff,reduceCtorEq,mxA,mxB,Nat.reduceAdd,reduceIte,Nat.reduceLeDiff,splice,syA,r0,r1,r5,e1,c1,decide_true,u1,hg1,hg2,p2,beq_self_eq_true,ei]
   refine⟨l.length - (i+1),by omega,i+1,by omega,rfl,rfl,?_,?_,?_⟩
   all_goals simp only[uxA,uxB,Nat.reduceBEq,r0,r1]
  ·have e1:decide ((i:Int)<(l.length:Int))=false:=decide_eq_false (by omega)
   simp only[WH,sxA,sxB,Nat.reduceBEq,Nat.reduceEqDiff,reduceCtorEq,mxA,mxB,Nat.reduceAdd,reduceIte,Nat.reduceLeDiff,splice,r0,r1,r5,e1,Qb,Gl]
   exact .mk (Nat.le_refl _) ⟨rfl,rfl⟩
structure Qi7 (H:Qa) (x:Im) (vb vs vm:Value):Prop where
 gb:YD H vb x.b.length (u8v x.b)
 gs:YD H vs x.syms.length (YV x.syms)
 gm:YD H vm x.marks.length (WS x.marks)
 cap:∀a c,vb=.slice a x.b.length c→(UNK≤c→c=UNK+1)∧(c<UNK→x.b.length≤c)
 n:∀y∈x.syms,I64 y.n
theorem Qi7.more {H H':Qa} {x:Im} {vb vs vm:Value} (h:Qi7 H x vb vs vm) (hw:H.Wf) (hx:Ext H H'):Qi7 H' x vb vs vm:=⟨h.gb.ext hw hx,h.gs.ext hw hx,h.gm.ext hw hx,h.cap,h.n⟩
theorem QoG (x:Im) (vb vs vm:Value) (H:Qa) (hI:Qi7 H x vb vs vm):Qf prog Yt [.agg #[.int .i64 x.org,vb,vs,vm]] H fun u H'=>(∃t:Bool,u=.bool t∧(t=false→x.b.length≤1000∧x.syms.length≤40∧(∀y∈x.syms,y.name.length≤100)∧x.marks.length≤40))∧Ext H H':=by
 refine V6 fun hw=>?_
 obtain⟨ba,bc,rfl,_⟩:=hI.gb
 obtain⟨sa,sc,rfl,_⟩:=id hI.gs
 obtain⟨ma,mc,rfl,_⟩:=hI.gm
 simp only[Jn,sxA,sxB,Nat.reduceBEq,Nat.reduceEqDiff,reduceCtorEq,mxA,mxB,Nat.reduceAdd,reduceIte,Nat.reduceLeDiff,splice]
 have hx1:∀c,Ext H (H.push c):=fun c=>(Ext.refl H).push c
 by_cases k1:(1000:Int)<(x.b.length:Int)
 ·simp only[sxA,sxB,Nat.reduceBEq,Nat.reduceEqDiff,reduceCtorEq,mxA,mxB,Nat.reduceAdd,reduceIte,Nat.reduceLeDiff,splice,decide_eq_true k1,Qb,XT]
  exact .mk (hx1 _).next ⟨⟨true,rfl,fun h=>nomatch h⟩,hx1 _⟩
 ·simp only[sxA,sxB,Nat.reduceBEq,Nat.reduceEqDiff,reduceCtorEq,mxA,mxB,Nat.reduceAdd,reduceIte,Nat.reduceLeDiff,splice,decide_eq_false k1,Qb]
  generalize hP:Qa.push H _=H1
  obtain⟨c,hP⟩:∃c,H1=H.push (.cells [.int .i64 x.org,.slice ba x.b.length bc,.slice sa x.syms.length sc,.slice ma x.marks.length mc] c false):=⟨_,hP.symm⟩
  have hxp:Ext H H1:=by rw[hP];exact hx1 _
  have hgp:H1.get H.next=some (.cells [.int .i64 x.org,.slice ba x.b.length bc,.slice sa x.syms.length sc,.slice ma x.marks.length mc] c false):=by rw[hP,Qa.get_push,if_pos rfl]
  clear hP
  refine(Qfk x.syms _ H1 (hI.gs.ext hw hxp)).thenW ?_
  rintro _ H2 _ hw2 ⟨⟨t,rfl,ht⟩,rfl⟩
  cases t with
  | true=>
   simp only[sxA,sxB,Nat.reduceBEq,Nat.reduceEqDiff,reduceCtorEq,mxA,mxB,Nat.reduceAdd,reduceIte,Nat.reduceLeDiff,splice,XT]
   exact .mk hxp.next ⟨⟨true,rfl,fun h=>nomatch h⟩,hxp⟩
  | false=>
   obtain⟨h1,h2⟩:=ht rfl
   simp only[sxA,sxB,Nat.reduceBEq,Nat.reduceEqDiff,reduceCtorEq,mxA,mxB,Nat.reduceAdd,reduceIte,Nat.reduceLeDiff,splice,hgp,Qb,XT]
   exact .mk hxp.next ⟨⟨_,rfl,fun h=>by have:=of_decide_eq_false h;exact⟨by omega,h1,h2,by omega⟩⟩,hxp⟩
theorem Qf9 {x:Im}:G7 x=0↔ZF x:=by
 unfold G7
 constructor
 ·intro h
  split at h
  ·split at h
   ·assumption
   ·cases h
  ·cases h
 ·intro h
  rw[if_pos (show QjI x from h.1),if_pos h]
theorem Qi8 {x:Im} (hc:ZF x) (hi:∀y∈x.syms,I64 y.n) (hb:x.b.length≤1000∧x.syms.length≤40∧x.marks.length≤40):(Yg x).length≤81∧∀s∈Yg x,s.length≤1000000:=by
 obtain⟨_,⟨c4,c5⟩,c6,c7⟩:=hc
 have hin:=QcY _ _ _ _ x.org c7 (Int.le_refl _)
 unfold Yg
 refine⟨by simp only[List.length_cons,List.length_append,List.length_map];omega,fun s hs=>?_⟩
 rcases List.mem_cons.1 hs with rfl | hs
 ·have:=Vv (n:=x.org) (by unfold I64;omega)
  unfold VO;rw[List.length_append];simp only[List.length_cons,List.length_nil];omega
 ·rcases List.mem_append.1 hs with hs | hs
  ·obtain⟨y,hy,rfl⟩:=List.mem_map.1 hs
   have h1:=Vv (hi y hy)
   obtain⟨j,hj⟩:=List.mem_iff_getElem?.1 hy
   have h2:=(QbG (c6 j y hj).1).2
   unfold Qba
   simp only[List.length_append,List.length_cons,List.length_nil]
   split<;>simp only[List.length_cons,List.length_nil]<;>omega
  ·obtain⟨m,hm,rfl⟩:=List.mem_map.1 hs
   have hm1:=hin m hm
   have h1:=Vv (n:=m.at_) (by unfold I64;omega)
   have h2:(Z7 m.line).length≤8:=by
    have:Z7 m.line=dgs 10 m.line.natAbs:=by unfold Z7 GQ;rw[if_neg (by omega)];rfl
    rw[this];have:=QcN 7 m.line.natAbs (by omega);omega
   unfold mkL J5
   simp only[List.length_append,List.length_cons,List.length_nil,Z8,List.length_take,List.length_drop]
   omega
theorem Qga:∀ (l:List (List UInt8)) (g:Option Stg) (x z:Im) (i:Nat),(∀y∈x.syms,I64 y.n)→YF g x i l=.ok z→∀y∈z.syms,I64 y.n
 | [],g,x,z,i,hx,h=>by cases g<;>(rw[YF]at h;cases h;exact hx)
 | s::l,g,x,z,i,hx,h=>by
  rw[YF]at h
  have hmk:∀ {x x1:Im} {g1:Stg},Kt x s=some (g1,x1)→x1.syms=x.syms:=fun {x x1 g1} h=>by
   unfold Kt at h
   split at h
   ·repeat' (split at h)
    all_goals (first | (cases h;rfl) | cases h)
   ·cases h
  have hst:∀g1 x1,goS g x s=some (g1,x1)→∀y∈x1.syms,I64 y.n:=fun g1 x1 h=>by
   match g with
   | none=>
    have h:Qcd x s=some (g1,x1):=h
    unfold Qcd at h
    split at h
    ·split at h
     ·cases h;exact hx
     ·cases h
    ·cases h
   | some .mark=>rw[hmk h];exact hx
   | some .sym=>
    have h:Qcf x s=some (g1,x1):=h
    unfold Qcf at h
    split at h
    ·rw[hmk h];exact hx
    ·split at h
     ·unfold Vx at h
      split at h
      ·cases h
       intro y hy
       rcases List.mem_append.1 hy with hy | hy
       ·exact hx y hy
       ·simp at hy;subst hy;exact QaH _
      ·cases h
     ·cases h
  split at h
  ·cases h
  ·rename_i g1 x1 hgo
   exact Qga l _ _ z _ (hst _ _ hgo) h
theorem QkG {l:List (List UInt8)} {z:Im} (h:Ku l=.ok z):∀y∈z.syms,I64 y.n:=by
 unfold Ku at h
 split at h
 ·cases h
 ·exact Qga l _ _ z _ (fun y hy=>by simp[im0]at hy) h
theorem Gs.cap {H0 H:Qa} {v:Value} {n:Nat} {cs:List Value} (h:Gs 1 5 H0 H v n cs):∀a c,v=.slice a n c→(UNK≤c→c=UNK+1)∧(c<UNK→n≤c):=by
 intro a c he
 rcases h with⟨rfl,rfl,_⟩ | ⟨b,rfl,_⟩
 ·cases he;exact⟨fun h=>by unfold UNK at h;omega,fun _=>Nat.le_refl _⟩
 ·cases he;exact⟨fun _=>rfl,fun h=>by omega⟩
theorem YD.cells1 {H:Qa} {v:Value} {cs:List Value} {n:Nat} (h:YD H v n cs) (hl:cs.length=n):Wp 1 v H=some cs:=by
 obtain⟨a,cap,rfl,h1⟩:=h
 by_cases h0:n=0
 ·subst h0
  have:cs=[]:=List.length_eq_zero_iff.1 hl
  subst this
  cases a<;>simp[Wp]
 ·obtain⟨b,e,ro,rfl,hb⟩:=h1 (by omega)
  simp only[Wp,h0,if_false,hb]
  rw[if_pos (by omega),List.drop_zero,List.take_of_length_le (by omega)]
theorem QgS (va vb:Value) (l:List UInt8) (H:Qa) (ha:YD H va l.length (u8v l)) (hb:YD H vb l.length (u8v l)):Qf prog Xx [va,vb] H fun u H'=>u=.bool true∧H'=H:=by
 refine G0 fun hw=>?_
 have ca:=ha.cells1 (by simp[u8v])
 have cb:=hb.cells1 (by simp[u8v])
 obtain⟨aa,ac,rfl,_⟩:=ha
 obtain⟨ba,bc,rfl,_⟩:=hb
 simp only[Y2,sxA,sxB,Nat.reduceBEq,Nat.reduceEqDiff,reduceCtorEq,mxA,mxB,Nat.reduceAdd,reduceIte,Nat.reduceLeDiff,splice]
 rw[QaU (a:=aa) (n:=l.length) (c:=ac) (bs:=l) (by kernel_rfl) (by simp only[uxA,uxB,Nat.reduceBEq]) ca (ZD l)]
 simp only[sxA,sxB,Nat.reduceBEq,Nat.reduceEqDiff,reduceCtorEq,mxA,mxB,Nat.reduceAdd,reduceIte,Nat.reduceLeDiff,splice]
 rw[QaU (a:=ba) (n:=l.length) (c:=bc) (bs:=l) (by kernel_rfl) (by simp only[uxA,uxB,Nat.reduceBEq]) cb (ZD l)]
 simp only[sxA,sxB,Nat.reduceBEq,Nat.reduceEqDiff,reduceCtorEq,mxA,mxB,Nat.reduceAdd,reduceIte,Nat.reduceLeDiff,splice,beq_self_eq_true,Gn]
 exact .mk (Nat.le_refl _) ⟨rfl,rfl⟩
theorem QgT (x:Im) (vb vs vm ub us um:Value) (hn:x.syms.length≤1000000∧x.marks.length≤1000000) (H:Qa) (ha:YD H vb x.b.length (u8v x.b)∧YD H vs x.syms.length (YV x.syms)∧YD H vm x.marks.length (WS x.marks)) (hb:YD H ub x.b.length (u8v x.b)∧YD H us x.syms.length (YV x.syms)∧YD H um x.marks.length (WS x.marks)):Qf prog Xv [.agg #[.int .i64 x.org,vb,vs,vm],.agg #[.int .i64 x.org,ub,us,um]] H fun u H'=>u=.bool true∧Ext H H':=by
 refine GY fun hw=>?_
 obtain⟨ha1,ha2,ha3⟩:=ha
 obtain⟨hb1,hb2,hb3⟩:=hb
 obtain⟨a1,c1,rfl,_⟩:=id ha1
 obtain⟨a2,c2,rfl,_⟩:=id ha2
 obtain⟨a3,c3,rfl,_⟩:=id ha3
 obtain⟨b1,d1,rfl,_⟩:=id hb1
 obtain⟨b2,d2,rfl,_⟩:=id hb2
 obtain⟨b3,d3,rfl,_⟩:=id hb3
 simp only[Y0,sxA,sxB,Nat.reduceBEq,Nat.reduceEqDiff,reduceCtorEq,mxA,mxB,Nat.reduceAdd,reduceIte,Nat.reduceLeDiff,splice]
 generalize hS:Qa.push (Qa.push H _) _=H2
 have hx2:Ext H H2:=by rw[← hS];exact((Ext.refl H).push _).push _
 have hw2:H2.Wf:=by rw[← hS];exact(hw.push _).push _
 obtain⟨e1,hg1⟩:∃e,H2.get H.next=some (.cells [.int .i64 x.org,.slice a1 x.b.length c1,.slice a2 x.syms.length c2,.slice a3 x.marks.length c3] e false):=by
  rw[← hS,Qa.get_push,Qa.next_push,if_neg (by omega),Qa.get_push,if_pos rfl];exact⟨_,rfl⟩
 obtain⟨e2,hg2⟩:∃e,H2.get (H.next+1)=some (.cells [.int .i64 x.org,.slice b1 x.b.length d1,.slice b2 x.syms.length d2,.slice b3 x.marks.length d3] e false):=by
  rw[← hS,Qa.get_push,Qa.next_push,if_pos rfl];exact⟨_,rfl⟩
 clear hS
 have ha1:=ha1.ext hw hx2
 have ha2:=ha2.ext hw hx2
 have ha3:=ha3.ext hw hx2
 have hb1:=hb1.ext hw hx2
 have hb2:=hb2.ext hw hx2
 have hb3:=hb3.ext hw hx2
 simp only[sxA,sxB,Nat.reduceBEq,Nat.reduceEqDiff,reduceCtorEq,mxA,mxB,Nat.reduceAdd,reduceIte,Nat.reduceLeDiff,splice,hg1,hg2,beq_self_eq_true]
 refine(QgS _ _ x.b H2 ha1 hb1).thenW ?_
 rintro _ H3 _ hw3 ⟨rfl,rfl⟩
 simp only[sxA,sxB,Nat.reduceBEq,Nat.reduceEqDiff,reduceCtorEq,mxA,mxB,Nat.reduceAdd,reduceIte,Nat.reduceLeDiff,splice,hg1,hg2]
 refine(Qfj _ _ x.syms hn.1 H3 ha2 hb2).thenW ?_
 rintro _ H4 _ hw4 ⟨rfl,rfl⟩
 obtain⟨q1,k1,he1,hga⟩:=ha3
 obtain⟨q2,k2,he2,hgb⟩:=hb3
 cases he1
 cases he2
 simp only[sxA,sxB,Nat.reduceBEq,Nat.reduceEqDiff,reduceCtorEq,mxA,mxB,Nat.reduceAdd,reduceIte,Nat.reduceLeDiff,splice,hg1,hg2,Qb,beq_self_eq_true,Yx]
 refine QC (fun m A' H'=>∃i:Nat,i≤x.marks.length∧m=x.marks.length - i∧H'=H4∧A' 2=.pointer (some ⟨H.next,0,none⟩)∧A' 3=.pointer (some ⟨H.next+1,0,none⟩)∧A' 5=.int .i64 i) x.marks.length ?_ ?_
 ·refine⟨0,Nat.zero_le _,rfl,rfl,?_,?_,?_⟩
  all_goals simp only[uxA,uxB,Nat.reduceBEq]
  all_goals rfl
 ·rintro m A' H' ⟨i,hi,rfl,hEq,r2,r3,r5⟩
  subst hEq
  by_cases h2:i<x.marks.length
  ·have e1:decide ((i:Int)<(x.marks.length:Int))=true:=decide_eq_true (by omega)
   have c1:(0:Int)≤(i:Int)∧(i:Int)<(x.marks.length:Int):=by omega
   have u1:(i:Int).toNat=i:=Int.toNat_natCast _
   have ei:IntKind.i64.wrap ((i:Int)+1)=((i+1:Nat):Int):=by rw[w64 (by unfold I64;omega)];rfl
   obtain⟨b1,e1',ro1,rfl,hm1⟩:=hga (by omega)
   obtain⟨b2,e2',ro2,rfl,hm2⟩:=hgb (by omega)
   have p1:=List.getElem?_eq_getElem h2
   generalize x.marks[i]=y at *
   have t1:=Qi6 p1
   have hle:i * 3+3≤(WS x.marks).length:=by rw[QcO];omega
   simp only[WG,Yw,sxA,sxB,Nat.reduceBEq,Nat.reduceEqDiff,reduceCtorEq,mxA,mxB,Nat.reduceAdd,reduceIte,Nat.reduceLeDiff,splice,syA,r2,r3,r5,hg1,hg2,e1,c1,decide_true,u1,hm1,hm2,t1,hle]
   rw[QfJ (Qpp y)]
   simp only[sxA,sxB,Nat.reduceBEq,Nat.reduceEqDiff,reduceCtorEq,mxA,mxB,Nat.reduceAdd,reduceIte,Nat.reduceLeDiff,splice,r5,ei,cond_true,Bool.not_true]
   refine⟨x.marks.length - (i+1),by omega,i+1,by omega,rfl,rfl,?_,?_,?_⟩
   all_goals simp only[uxA,uxB,Nat.reduceBEq,r2,r3]
  ·have e1:decide ((i:Int)<(x.marks.length:Int))=false:=decide_eq_false (by omega)
   simp only[WG,sxA,sxB,Nat.reduceBEq,Nat.reduceEqDiff,reduceCtorEq,mxA,mxB,Nat.reduceAdd,reduceIte,Nat.reduceLeDiff,splice,r2,r3,r5,hg1,hg2,e1,Qb,Gk]
   exact .mk hx2.next ⟨rfl,hx2⟩
theorem Qfl {T:Qa→Prop} (hT:Tz T) (hAw:∀H,T H→Qf prog Yc [] H fun u H'=>u=.bool true∧H'=H) (x:Im) (vb vs vm:Value) (l:List (List UInt8)) (lv:Value) (H:Qa) (hTH:T H) (hI:Qi7 H x vb vs vm) (hs:YD H lv l.length (YU l)):Qf prog Ww [.agg #[.int .i64 x.org,vb,vs,vm],lv] H fun u _=>u=.bool true:=by
 refine Kf fun hw=>?_
 obtain⟨ba,bc,rfl,_⟩:=id hI.gb
 obtain⟨sa,sc,rfl,_⟩:=id hI.gs
 obtain⟨ma,mc,rfl,_⟩:=id hI.gm
 simp only[X2,sxA,sxB,Nat.reduceBEq,Nat.reduceEqDiff,reduceCtorEq,mxA,mxB,Nat.reduceAdd,reduceIte,Nat.reduceLeDiff,splice]
 generalize hP:Qa.push H _=H1
 obtain⟨c,hP⟩:∃c,H1=H.push (.cells [.int .i64 x.org,.slice ba x.b.length bc,.slice sa x.syms.length sc,.slice ma x.marks.length mc] c false):=⟨_,hP.symm⟩
 have hxp:Ext H H1:=by rw[hP];exact(Ext.refl H).push _
 have hwp:H1.Wf:=by rw[hP];exact hw.push _
 have hgp:H1.get H.next=some (.cells [.int .i64 x.org,.slice ba x.b.length bc,.slice sa x.syms.length sc,.slice ma x.marks.length mc] c false):=by rw[hP,Qa.get_push,if_pos rfl]
 have hnp:H1.next=H.next+1:=by rw[hP,Qa.next_push]
 clear hP
 have hT1:=hT.q.ext _ _ hw hTH hxp
 have hI1:=hI.more hw hxp
 have hs1:=hs.ext hw hxp
 refine(hAw H1 hT1).thenW ?_
 rintro _ H2 _ hw2 ⟨rfl,rfl⟩
 simp only[sxA,sxB,Nat.reduceBEq,Nat.reduceEqDiff,reduceCtorEq,mxA,mxB,Nat.reduceAdd,reduceIte,Nat.reduceLeDiff,splice,hgp]
 refine(QoG x _ _ _ H2 hI1).thenW ?_
 rintro _ H3 _ hw3 ⟨⟨t,rfl,ht⟩,hx3⟩
 have hgX3:H3.get H.next=some (.cells [.int .i64 x.org,.slice ba x.b.length bc,.slice sa x.syms.length sc,.slice ma x.marks.length mc] c false):=by rw[hx3.get _ (by omega)];exact hgp
 have hs3:=hs1.ext hwp hx3
 have hI3:=hI1.more hwp hx3
 have hn3:=hx3.next
 have okRet:∀ (A:Env) (H':Qa),H.next≤H'.next→A 4=.bool true→Rt prog Wx H (fun u _=>u=.bool true) A H':=fun A H' hn h4=>by
  rw[JT,h4]
  exact .mk hn rfl
 cases t with
 | true=>
  simp only[sxA,sxB,Nat.reduceBEq,Nat.reduceEqDiff,reduceCtorEq,mxA,mxB,Nat.reduceAdd,reduceIte,Nat.reduceLeDiff,splice]
  exact okRet _ _ (by omega) (by simp only[uxA,uxB,Nat.reduceBEq])
 | false=>
  obtain⟨hl1,hl2,hl3,hl4⟩:=ht rfl
  simp only[sxA,sxB,Nat.reduceBEq,Nat.reduceEqDiff,reduceCtorEq,mxA,mxB,Nat.reduceAdd,reduceIte,Nat.reduceLeDiff,splice]
  refine(QhQ l lv H3 hs3).thenW ?_
  rintro _ H4 _ hw4 ⟨⟨t,rfl,ht2⟩,rfl⟩
  cases t with
  | true=>
   simp only[sxA,sxB,Nat.reduceBEq,Nat.reduceEqDiff,reduceCtorEq,mxA,mxB,Nat.reduceAdd,reduceIte,Nat.reduceLeDiff,splice]
   exact okRet _ _ (by omega) (by simp only[uxA,uxB,Nat.reduceBEq])
  | false=>
   obtain⟨hk1,hk2⟩:=ht2 rfl
   have hT4:=hT.q.ext _ _ hwp hT1 hx3
   simp only[sxA,sxB,Nat.reduceBEq,Nat.reduceEqDiff,reduceCtorEq,mxA,mxB,Nat.reduceAdd,reduceIte,Nat.reduceLeDiff,splice,XD,hgX3]
   refine(QjK hT x _ _ _ (fun y hy=>by have:=hl3 y hy;omega) hI.n H4 hT4 hI3.gb hI.cap hI3.gs hI3.gm (by omega)).thenW ?_
   rintro _ H5 _ hw5 ⟨hx5,hWr⟩
   have hgX5:H5.get H.next=some (.cells [.int .i64 x.org,.slice ba x.b.length bc,.slice sa x.syms.length sc,.slice ma x.marks.length mc] c false):=by rw[hx5.get _ (by omega)];exact hgX3
   have hI5:=hI3.more hw4 hx5
   have hs5:=hs3.ext hw4 hx5
   have hn5:=hx5.next
   have hT5:=hT.q.ext _ _ hw4 hT4 hx5
   -- what Read of the given lines and Write of that tell
   have tail:∀ (A:Env) (H6:Qa),A 1=lv→A 5=.bool true→H6.Wf→Ext H4 H6→Qw prog We ⟨Rt prog Wx H (fun u _=>u=.bool true),Qa0⟩ (Rt prog Wx H (fun u _=>u=.bool true)) A H6:=by
    intro A H6 q1 q5 hw6 hx46
    have hT6:=hT.q.ext _ _ hw4 hT4 hx46
    have hs6:=hs3.ext hw4 hx46
    have hn6:=hx46.next
    simp only[We,sxA,sxB,Nat.reduceBEq,Nat.reduceEqDiff,reduceCtorEq,mxA,mxB,Nat.reduceAdd,reduceIte,Nat.reduceLeDiff,splice,syA,q1]
    refine(Qma hT l lv (fun s hs=>by have:=hk2 s hs;omega) (by omega) H6 hT6 hs6).thenW ?_
    rintro _ H7 _ hw7 hP
    obtain⟨z,zb,zs,zm,e,i,rfl,hIz,hx7,hr⟩:=hP.one
    obtain⟨a1,a2,a3,c1,c2,c3,rfl,rfl,rfl⟩:=hIz.slp
    simp only[sxA,sxB,Nat.reduceBEq,Nat.reduceEqDiff,reduceCtorEq,mxA,mxB,Nat.reduceAdd,reduceIte,Nat.reduceLeDiff,splice,syA]
    generalize hS:Qa.set (Qa.set (Qa.push (Qa.push H7 _) _) _ _) _ _=H8
    have hx78:Ext H7 H8:=by rw[← hS];exact((((Ext.refl H7).push _).push _).set (Nat.le_refl _) _).set (by omega) _
    have hn8:H8.next=H7.next+2:=by rw[← hS,Qa.next_set,Qa.next_set,Qa.next_push,Qa.next_push]
    have hw8:H8.Wf:=by
     rw[← hS]
     exact(((hw7.push _).push _).set (by rw[Qa.get_push,Qa.next_push,if_neg (by omega),Qa.get_push,if_pos rfl]) _).set (by rw[Qa.get_set,if_neg (by omega),Qa.get_push,Qa.next_push,if_pos rfl]) _
    have hgZ:H8.get H7.next=some (.cells [.int .i64 z.org,.slice a1 z.b.length c1,.slice a2 z.syms.length c2,.slice a3 z.marks.length c3] QW false):=by
     rw[← hS,Qa.get_set,if_neg (by omega),Qa.get_set,if_pos rfl]
    have hgW:H8.get (H7.next+1)=some (.cells [.int .i64 e,.int .i64 i] Yu false):=by rw[← hS,Qa.get_set,if_pos rfl]
    clear hS
    have hx48:=(hx46.trans hx7).trans hx78
    have hn48:=hx48.next
    cases hrf:Ku l with
    | error n=>
     rw[hrf]at hr
     obtain⟨rfl,rfl,rfl⟩:=hr
     obtain⟨e1,e2⟩:=QkD hrf
     obtain⟨la,lc,hlv,_⟩:=hs3
     have b4:((4:Int)==0)=false:=rfl
     have b44:((4:Int)==4)=true:=rfl
     have d1:decide ((1:Int)≤(n:Int))=true:=decide_eq_true (by omega)
     have ea:IntKind.i64.wrap ((l.length:Int)+1)=((l.length+1:Nat):Int):=by rw[w64 (by unfold I64;omega)];rfl
     have d2:decide ((n:Int)≤((l.length+1:Nat):Int))=true:=decide_eq_true (by omega)
     rw[hlv]at q1
     simp only[sxA,sxB,Nat.reduceBEq,Nat.reduceEqDiff,reduceCtorEq,mxA,mxB,Nat.reduceAdd,reduceIte,Nat.reduceLeDiff,splice,syA,b4,XB,q1,q5,hgW,b44,d1,Qb,ea,d2]
     exact okRet _ _ (by omega) (by simp only[uxA,uxB,Nat.reduceBEq])
    | ok y=>
     rw[hrf]at hr
     obtain⟨rfl,rfl,rfl⟩:=hr
     obtain⟨hwz,hcz⟩:=QkC hrf
     have hiz:=QkG hrf
     have b0:((0:Int)==0)=true:=rfl
     have hT8:=hT.q.ext _ _ hw4 hT4 hx48
     have hIz8:=hIz.more hw7 hx78
     obtain⟨⟨z1,z2,z3⟩,_,z5,_⟩:=id hcz
     simp only[sxA,sxB,Nat.reduceBEq,Nat.reduceEqDiff,reduceCtorEq,mxA,mxB,Nat.reduceAdd,reduceIte,Nat.reduceLeDiff,splice,syA,b0,XA,q1,q5,hgZ]
     refine(QjK hT z _ _ _ (fun y hy=>by
      obtain⟨j,hj⟩:=List.mem_iff_getElem?.1 hy
      have:=(QbG (z5 j y hj).1).2;omega) hiz H8 hT8 hIz8.gb.isl hIz8.gb.cap hIz8.gs.isl hIz8.gm.isl (by omega)).thenW ?_
     rintro _ H9 _ hw9 ⟨hx9,hW⟩
     have hs9:=hs3.ext hw4 (hx48.trans hx9)
     have hn9:=hx9.next
     rcases hW with⟨h0,_⟩ | ⟨_,v,rfl,hL⟩
     ·exact absurd (Qf9.2 hcz) h0
     ·rw[hwz]at hL
      simp only[sxA,sxB,Nat.reduceBEq,Nat.reduceEqDiff,reduceCtorEq,mxA,mxB,Nat.reduceAdd,reduceIte,Nat.reduceLeDiff,splice,syA,q1,q5,b0]
      refine(QhR v lv l (by omega) H9 hL.isl hs9).thenW ?_
      rintro _ H10 _ hw10 ⟨rfl,rfl⟩
      simp only[sxA,sxB,Nat.reduceBEq,Nat.reduceEqDiff,reduceCtorEq,mxA,mxB,Nat.reduceAdd,reduceIte,Nat.reduceLeDiff,splice,syA]
      exact okRet _ _ (by omega) (by simp only[uxA,uxB,Nat.reduceBEq])
   have hchk:∀H',H4.next≤H'.next→H'.Wf→Qi7 H' x (.slice ba x.b.length bc) (.slice sa x.syms.length sc) (.slice ma x.marks.length mc)→Qf prog XZ [.agg #[.int .i64 x.org,.slice ba x.b.length bc,.slice sa x.syms.length sc,.slice ma x.marks.length mc]] H' fun u H''=>u=.int .i64 (G7 x)∧Ext H' H'':=fun H' _ _ hI'=>QjJ x _ _ _ (fun y hy=>by have:=hl3 y hy;omega) H' ⟨_,_,rfl⟩ hI'.gs hI'.gm (by omega)
   rcases hWr with⟨h0,rfl⟩ | ⟨h0,v,rfl,hL⟩
   ·simp only[sxA,sxB,Nat.reduceBEq,Nat.reduceEqDiff,reduceCtorEq,mxA,mxB,Nat.reduceAdd,reduceIte,Nat.reduceLeDiff,splice,syA,hgX5]
    refine(hchk H5 hn5 hw5 hI5).thenW ?_
    rintro _ H6 _ hw6 ⟨rfl,hx6⟩
    have b0:(G7 x==G7 x)=true:=beq_self_eq_true _
    have b1:(G7 x==0)=false:=beq_eq_false_iff_ne.2 h0
    have b2:decide ((0:Int)<((0:Nat):Int))=false:=rfl
    simp only[sxA,sxB,Nat.reduceBEq,Nat.reduceEqDiff,reduceCtorEq,mxA,mxB,Nat.reduceAdd,reduceIte,Nat.reduceLeDiff,splice,syA,b0,b1,Qb,b2,Wg]
    refine tail _ H6 ?_ ?_ hw6 (hx5.trans hx6)
    all_goals simp only[uxA,uxB,Nat.reduceBEq]
   ·simp only[sxA,sxB,Nat.reduceBEq,Nat.reduceEqDiff,reduceCtorEq,mxA,mxB,Nat.reduceAdd,reduceIte,Nat.reduceLeDiff,splice,syA,hgX5]
    refine(hchk H5 hn5 hw5 hI5).thenW ?_
    rintro _ H6 _ hw6 ⟨rfl,hx6⟩
    have b0:((0:Int)==G7 x)=true:=by rw[h0];rfl
    have b1:((0:Int)==0)=true:=rfl
    simp only[sxA,sxB,Nat.reduceBEq,Nat.reduceEqDiff,reduceCtorEq,mxA,mxB,Nat.reduceAdd,reduceIte,Nat.reduceLeDiff,splice,syA,b0,b1,Wg,XC]
    have hcx:=Qf9.1 h0
    have hwl:=Qi8 hcx hI.n ⟨hl1,hl2,hl4⟩
    have hx46:=hx5.trans hx6
    have hT6:=hT.q.ext _ _ hw4 hT4 hx46
    have hn6:=hx6.next
    refine(Qma hT (Yg x) v hwl.2 (by omega) H6 hT6 ((hL.more hw5 hx6).isl)).thenW ?_
    rintro _ H7 _ hw7 hP
    rw[Qi5 hcx hI.n]at hP
    obtain⟨yb,ys,ym,rfl,hIy,hx7⟩:=hP
    obtain⟨a1,a2,a3,e1,e2,e3,rfl,rfl,rfl⟩:=hIy.slp
    have hgX7:H7.get H.next=some (.cells [.int .i64 x.org,.slice ba x.b.length bc,.slice sa x.syms.length sc,.slice ma x.marks.length mc] c false):=by rw[hx7.get _ (by omega),hx6.get _ (by omega)];exact hgX5
    have hn7:=hx7.next
    have nX1:¬H.next=H7.next:=by omega
    have nX2:¬H.next=H7.next+1:=by omega
    simp only[sxA,sxB,Nat.reduceBEq,Nat.reduceEqDiff,reduceCtorEq,mxA,mxB,Nat.reduceAdd,reduceIte,Nat.reduceLeDiff,splice,syA,b1,hgX7,nX1,nX2,if_false]
    generalize hS:Qa.set (Qa.set (Qa.push (Qa.push H7 _) _) _ _) _ _=H8
    have hx78:Ext H7 H8:=by rw[← hS];exact((((Ext.refl H7).push _).push _).set (Nat.le_refl _) _).set (by omega) _
    have hw8:H8.Wf:=by
     rw[← hS]
     exact(((hw7.push _).push _).set (by rw[Qa.get_push,Qa.next_push,if_neg (by omega),Qa.get_push,if_pos rfl]) _).set (by rw[Qa.get_set,if_neg (by omega),Qa.get_push,Qa.next_push,if_pos rfl]) _
    clear hS
    have hx48:=(hx46.trans hx7).trans hx78
    have hIx8:=hI3.more hw4 hx48
    have hIy8:=hIy.more hw7 hx78
    refine(QgT x _ _ _ _ _ _ (by omega) H8 ⟨hIx8.gb,hIx8.gs,hIx8.gm⟩ ⟨hIy8.gb.isl,hIy8.gs.isl,hIy8.gm.isl⟩).thenW ?_
    rintro _ H9 _ hw9 ⟨rfl,hx9⟩
    simp only[sxA,sxB,Nat.reduceBEq,Nat.reduceEqDiff,reduceCtorEq,mxA,mxB,Nat.reduceAdd,reduceIte,Nat.reduceLeDiff,splice,syA]
    refine tail _ H9 ?_ ?_ hw9 (hx48.trans hx9)
    all_goals simp only[uxA,uxB,Nat.reduceBEq]
end Go.Proofs.YthoanamkoigjeaaDoor.code
