/- The document's canon of an instruction, whole. -/
import Derived.Test.YtdjkkoacinpdeaaGreatDoorF2Canon
set_option linter.unusedVariables false
set_option linter.unusedSimpArgs false
set_option maxRecDepth 100000
set_option maxHeartbeats 4000000
noncomputable section
namespace Go.Proofs.YtdjkkoacinpdeaaGreatDoor.code
open Go.Ab
def Qn0:PC:=(.ops [Ow 53 (.fldA 1 (t 5)),Ow 54 (.ld false 1 (t 53)),Ow 55 (.ld true 11 (t 7)),Ow 56 (.bslice Qc 11 1 [.int .i64 0,.int .i64 0,.int .i64 0,.int .i64 0,.int .i64 0,.int .i64 0,.int .i64 0,.int .i64 0,.int .i64 0,.int .i64 0,.int .i64 0] [(0,(t 55))]),Ow 57 (.app Qc 11 88 (t 54) (t 56)),Ow 58 (.fldA 1 (t 5)),Ov (.st 1 (t 58) (t 57))])
theorem Qtp:Jw=(.seq (.block 1 (.seq (.ops [Ow 28 (.fldA 1 (t 1)),Ow 29 (.ld false 1 (t 28)),Om 30 (t 6),Ow 31 (.idxS 11 (t 29) (t 30)),Ow 32 (.ld true 11 (t 31)),Ow 33 (.call XV [(t 32)]),Om 27 (t 33),Ow 34 (.ext (t 27) 0),Ow 35 (.ext (t 27) 1),Ow 7 (.alloc Qc [.int .i64 0,.int .i64 0,.int .i64 0,.int .i64 0,.int .i64 0,.int .i64 0,.int .i64 0,.int .i64 0,.int .i64 0,.int .i64 0,.int .i64 0]),Ov (.st 11 (t 7) (t 34)),Om 8 (t 35)]) (.seq (.seq (.ops [Ow 36 (.fldA 0 (t 7)),Ow 37 (.ld false 1 (t 36)),Ow 38 (.bin .eql (t 37) (Ci 3))]) (.cond (t 38) YD .skip)) Qn0))) (.ops [Om 25 (t 6),Ow 26 (.bin .add (t 25) (Ci 1)),Om 6 (t 26)])):=rfl
structure CnL (HC:Qa) (D:Nat) (op:Int) (H:Qa) (w:Value) (d:List Ar) (A:Env) (H':Qa):Prop where
 wf:H'.Wf
 x:Ext HC H'
 r1:A 1=.pointer (some ⟨H.next,0,none⟩)
 r2:A 2=.pointer (some ⟨H.next+1,0,none⟩)
 r5:A 5=.pointer (some ⟨D,0,none⟩)
 gD:H'.get D=some (.cells [.int .i64 op,w] Qb false)
 gs:Gs 11 Qc HC H' w d.length (Qh d)
 ap:¬JF w D
theorem CnL.ext {HC:Qa} {D:Nat} {op:Int} {H:Qa} {w:Value} {d:List Ar} {A B:Env} {H1 H2:Qa} (h:CnL HC D op H w d A H1) (hx:Ext H1 H2) (hw2:H2.Wf) (e1:B 1=A 1) (e2:B 2=A 2) (e5:B 5=A 5):CnL HC D op H w d B H2:=by
 have hn:=hx.next
 have hn0:=h.x.next
 refine⟨hw2,⟨by omega,fun id hid=>by rw[hx.get id (by omega)];exact h.x.get id hid⟩,e1.trans h.r1,e2.trans h.r2,e5.trans h.r5,by rw[hx.get _ (h.wf.lt h.gD)];exact h.gD,h.gs.ext fun id hid=>hx.get id ?_,h.ap⟩
 exact(h.gs.low h.wf hid).2
theorem Qnk {HC:Qa} {D E:Nat} {op:Int} {H:Qa} {w:Value} {d:List Ar} {A:Env} {H':Qa} {ks:Kp} {k:Env→Qa→Prop} {b:Ar} (hF:CnL HC D op H w d A H') (hD:HC.next≤D) (hd:d.length≤100) (r7:A 7=.pointer (some ⟨E,0,none⟩)) (gE:H'.get E=some (.cells b.cells Qc false))
  (hk:∀ (B:Env) (w':Value) (H2:Qa),CnL HC D op H w' (d++[b]) B H2→B 6=A 6→k B H2):Qj prog Qn0 ks k A H':=by
 obtain⟨hw,hx,r1,r2,r5,gD,hgs,hap⟩:=hF
 have hDl:=hw.lt gD
 have h11:b.cells.length=11:=rfl
 have htk:List.take 11 b.cells=b.cells:=rfl
 have hbf:QjK 11 [.int .i64 0,.int .i64 0,.int .i64 0,.int .i64 0,.int .i64 0,.int .i64 0,.int .i64 0,.int .i64 0,.int .i64 0,.int .i64 0,.int .i64 0] [(0,.agg b.cells.toArray)]=some b.cells:=rfl
 have hone:(b.cells.all fun v=>v.oneCell')=true:=rfl
 have hone2:(b.cells.all (·.oneCell'))=true:=rfl
 have hcs:Qh [b]=b.cells:=by simp[Qh]
 generalize hbc:b.cells=bc at *
 have hle:0+11≤bc.length:=by omega
 have hle2:11≤bc.length:=by omega
 simp only[Qn0,Qgm,XB,Wp,Zf,WA,Qbc,QhE,Qsh,QjL,Qp2,QnO,List.map_cons,List.map_nil,QpX,Qhj,QT,JU,Nat.reduceBEq,bf,bt,r5,r7,Qec,QnM,gD,gE,cond_false,cond_true,hbf,QfF,htk,QlB,QnN,Nat.zero_add,Nat.add_zero,List.getElem?_cons_succ,List.getElem?_cons_zero,List.drop_zero,hle,hle2]
 have hg1:(H'.push (.cells bc Qc false)).get H'.next=some (.cells bc Qc false):=by rw[Qa.get_push,if_pos rfl]
 have hx1:Ext HC (H'.push (.cells bc Qc false)):=hx.push _
 have hw1:=hw.push (.cells bc Qc false)
 have hgs1:Gs 11 Qc HC (H'.push (.cells bc Qc false)) w d.length (Qh d):=hgs.ext fun id hid=>by
  have:=(hgs.low hw hid).2
  rw[Qa.get_push,if_neg (by omega)]
 have gD1:(H'.push (.cells bc Qc false)).get D=some (.cells [.int .i64 op,w] Qb false):=by rw[Qa.get_push,if_neg (by omega)];exact gD
 have hDl1:D<(H'.push (.cells bc Qc false)).next:=by rw[Qa.next_push];omega
 generalize (H'.push (.cells bc Qc false))=H1 at *
 refine⟨w,rfl,trivial,?_⟩
 refine Qqm hgs1 hx1 hw1 (Qqn (c:=bc) hg1 (by decide) (by omega)) hone2 (Nat.le_refl _) (by omega) (by omega) (by omega) ?_
 intro v' H2 hgs2 hx2 hw2 hkeep hn2 hnew
 have gD2:H2.get D=some (.cells [.int .i64 op,w] Qb false):=by rw[hkeep D hDl1 hap];exact gD1
 have hapD:¬JF v' D:=fun hi=>by have:=hnew D hi;omega
 have hone3:(([v']:List Value).all fun x=>x.oneCell')=true:=by
  rcases hgs2 with⟨rfl,_⟩ | ⟨b',rfl,_⟩
  ·rfl
  ·rfl
 have hcells:v'.cells.toList=[v']:=by
  rcases hgs2 with⟨rfl,_⟩ | ⟨b',rfl,_⟩
  ·rfl
  ·rfl
 simp only[XB,XF,Wp,Zf,WA,Qbc,QhE,QnO,Qhj,QT,JU,Nat.reduceBEq,bf,bt,r5,Qec,cond_false,cond_true,Qim,QeZ,gD2,hcells,Nat.zero_add]
 refine⟨⟨rfl,by simp,hone3⟩,?_⟩
 have hsp:splice [Value.int .i64 op,w] 1 [v']=[.int .i64 op,v']:=rfl
 rw[hsp]
 refine hk _ v' _ ⟨hw2.set gD2 _,hx2.set hD _,?_,?_,?_,by rw[Qa.get_set,if_pos rfl],?_,hapD⟩ ?_
 ·simp only[uxA,uxB,Nat.reduceBEq,r1]
 ·simp only[uxA,uxB,Nat.reduceBEq,r2]
 ·simp only[uxA,uxB,Nat.reduceBEq,r5]
 ·rw[List.length_append,QaZ,hcs]
  refine hgs2.ext fun id hid=>?_
  have:id≠D:=fun h=>hapD (by rw[← h];exact hid)
  rw[Qa.get_set,if_neg this]
 ·simp only[uxA,uxB,Nat.reduceBEq]
section
variable {H:Qa} {op:Int} {l:List Ar} {a0:Option Addr} {cap:Nat}
theorem Qr2 (hw:H.Wf) (hv:QY H (.slice a0 l.length cap) l) (hl:l.length≤4) (hI:∀a∈l,I64 a.n) (hc0:WG op l=0) {HC:Qa} {D:Nat} (hHC:HC.Wf) (hxC:Ext H HC) (hD:HC.next=D) (hD2:H.next+2≤D)
  (c0:HC.get H.next=some (.cells [.int .i64 op,.slice a0 l.length cap] Qb false)) (c1:HC.get (H.next+1)=some (.cells [.int .i64 0,.slice none 0 0] Qb false)) (A:Env) (H1:Qa) (hF:CnL HC D op H (.slice none 0 0) [] A H1) (r6:A 6=.int .i64 0):
  Qj prog (.seq (.block 0 (.loop YE)) Q6) ⟨KD H op l,Y8⟩ (KD H op l) A H1:=by
 have hend:∀ (w:Value) (A:Env) (H':Qa),CnL HC D op H w (l.map (cF (Wn op l))) A H'→Qj prog Q6 ⟨KD H op l,Y8⟩ (KD H op l) A H':=by
  intro w A H' ⟨hw',hx,r1,r2,r5,gD,hgs,hap⟩
  have hn:=hx.next
  refine QqG (v:=.slice a0 l.length cap) (w:=w) (D:=D) (m:=l.map (cF (Wn op l))) hw' ⟨⟨by have:=hxC.next;omega,fun id hid=>by rw[hx.get id (by have:=hxC.next;omega)];exact hxC.get id hid⟩,hD2,r1,r2,r5,by rw[hx.get _ (by omega)];exact c0,by rw[hx.get _ (by omega)];exact c1,gD,QtZ hgs (by decide),fun id hid=>?_⟩ (by rw[List.length_map];exact hl) (Qo7 hc0)
  have:=(hgs.low hw' hid).1
  rcases Nat.lt_or_ge D id with h | h
  ·exact h
  ·exact absurd (by rw[show D=id by omega];exact hid) hap
 simp only[X9,Kg]
 refine Wq (fun m A' H'=>∃ (i:Nat) (w:Value),i≤l.length∧m=l.length - i∧CnL HC D op H w ((l.take i).map (cF (Wn op l))) A' H'∧A' 6=.int .i64 i) l.length ?_ ?_
 ·exact⟨0,_,Nat.zero_le _,by omega,hF,r6⟩
 ·rintro m A' H' ⟨i,w,hi,rfl,hL,r6⟩
  have hn:=hL.x.next
  have g0:H'.get H.next=some (.cells [.int .i64 op,.slice a0 l.length cap] Qb false):=by rw[hL.x.get _ (by omega)];exact c0
  have hxH:Ext H H':=⟨by have:=hxC.next;omega,fun id hid=>by rw[hL.x.get id (by have:=hxC.next;omega)];exact hxC.get id hid⟩
  simp(disch:=(first | omega | ((repeat (first | rw[Qa.next_push] | rw[Qa.next_set] | rw[Qa.next_up]));done) | ((repeat (first | rw[Qa.next_push] | rw[Qa.next_set] | rw[Qa.next_up]));omega))) only[YE,sxA,sxB,Nat.reduceBEq,Nat.reduceEqDiff,reduceCtorEq,mxD,mxB,Nat.reduceAdd,reduceIte,Nat.reduceLeDiff,splice,hL.r1,g0,r6]
  refine Qe (fun h2=>?_) (fun h2=>?_)
  ·have h2:i<l.length:=by have:=of_decide_eq_true h2;omega
   obtain⟨a,ha⟩:∃a,l[i]? = some a:=⟨_,List.getElem?_eq_getElem h2⟩
   obtain⟨b,rfl,hbl,⟨e,ro,hgb⟩,d1,d3,htk,hle,hk,hnn,ei⟩:=atI hv hw hxH (by omega) ha
   have han:=hI a (List.mem_of_getElem? ha)
   have hdl:((l.take i).map (cF (Wn op l))).length≤100:=by rw[List.length_map,List.length_take];omega
   have hstep:∀ (B:Env) (w':Value) (H2:Qa),CnL HC D op H w' ((l.take i).map (cF (Wn op l))++[cF (Wn op l) a]) B H2→B 6=.int .i64 i→Qj prog (.ops [Om 25 (t 6),Ow 26 (.bin .add (t 25) (Ci 1)),Om 6 (t 26)]) ⟨KD H op l,exK 0 (Qj prog Q6 ⟨KD H op l,Y8⟩ (KD H op l)) Y8⟩ (Qp4 (fun m A' H'=>∃ (i:Nat) (w:Value),i≤l.length∧m=l.length - i∧CnL HC D op H w ((l.take i).map (cF (Wn op l))) A' H'∧A' 6=.int .i64 i) (l.length - i)) B H2:=by
    intro B w' H2 hL2 q6
    simp only[sxA,sxB,Nat.reduceBEq,Nat.reduceEqDiff,reduceCtorEq,q6,ei]
    refine⟨l.length - (i+1),by omega,i+1,w',by omega,rfl,?_,?_⟩
    ·rw[Qgy l i a ha,List.map_append]
     exact⟨hL2.wf,hL2.x,by simp only[uxA,uxB,Nat.reduceBEq];exact hL2.r1,by simp only[uxA,uxB,Nat.reduceBEq];exact hL2.r2,by simp only[uxA,uxB,Nat.reduceBEq];exact hL2.r5,hL2.gD,hL2.gs,hL2.ap⟩
    ·simp only[uxA,uxB,Nat.reduceBEq]
   simp(disch:=(first | omega | ((repeat (first | rw[Qa.next_push] | rw[Qa.next_set] | rw[Qa.next_up]));done) | ((repeat (first | rw[Qa.next_push] | rw[Qa.next_set] | rw[Qa.next_up]));omega))) only[Qtp,sxA,sxB,Nat.reduceBEq,Nat.reduceEqDiff,reduceCtorEq,mxD,mxB,Nat.reduceAdd,reduceIte,Nat.reduceLeDiff,splice,hL.r1,g0,r6,d1,d3,hgb,htk,hle]
   refine(Qdm a _).thenW ?_
   rintro _ _ hn2 hw2 ⟨rfl,k,rfl⟩
   have hcn:=Qj2 a han
   have hcf:cF (Wn op l) a=if((QP a).1.k==3)=true then {(QP a).1 with n:=(Yw (QP a).1.n (Wn op l).1 (Wn op l).2).1} else(QP a).1:=rfl
   rw[hcf]at hstep
   clear hcf
   generalize (QP a).1=ca at *
   generalize (QP a).2=er at *
   have hkH:H'.next≤k:=hn2
   have hLk:∀ (B:Env) (H2:Qa),Ext (H'.up k) H2→H2.Wf→B 1=A' 1→B 2=A' 2→B 5=A' 5→CnL HC D op H w ((l.take i).map (cF (Wn op l))) B H2:=fun B H2 hx2 hw2 e1 e2 e5=>hL.ext ⟨by have:=hx2.next;rw[Qa.next_up]at this;omega,fun id hid=>by rw[hx2.get id (by rw[Qa.next_up];omega),Qa.get_up]⟩ hw2 e1 e2 e5
   have g0k:∀H2:Qa,Ext (H'.up k) H2→H2.get H.next=some (.cells [.int .i64 op,.slice (some ⟨b,0,none⟩) l.length cap] Qb false):=fun H2 hx2=>by
    rw[hx2.get _ (by rw[Qa.next_up];omega),Qa.get_up];exact g0
   have hrest:∀ (ks:Kp) (b:Ar) (B:Env) (H2:Qa) (nx:Env→Qa→Prop),(∀ (B:Env) (w':Value) (H2:Qa),CnL HC D op H w' ((l.take i).map (cF (Wn op l))++[b]) B H2→B 6=.int .i64 i→nx B H2)→Ext (H'.up k) H2→H2.Wf→B 1=A' 1→B 2=A' 2→B 5=A' 5→B 6=.int .i64 i→B 7=.pointer (some ⟨k,0,none⟩)→H2.get k=some (.cells b.cells Qc false)→Qj prog Qn0 ks nx B H2:=by
    intro ks b B H2 nx hnx hx2 hw2 e1 e2 e5 e6 e7 gk
    refine Qnk (hLk B H2 hx2 hw2 e1 e2 e5) (by omega) hdl e7 gk ?_
    intro B2 w' H3 hL3 q6
    exact hnx B2 w' H3 hL3 (q6.trans e6)
   obtain⟨ck,⟨crc,crn⟩,⟨⟨cbc,cbn⟩,⟨cic,cin⟩,csc,cd,csz⟩,cn⟩:=ca
   try simp only at hcn hstep
   simp(disch:=(first | omega | ((repeat (first | rw[Qa.next_push] | rw[Qa.next_set] | rw[Qa.next_up]));done) | ((repeat (first | rw[Qa.next_push] | rw[Qa.next_set] | rw[Qa.next_up]));omega))) only[Ar.cells,sxA,sxB,Nat.reduceBEq,Nat.reduceEqDiff,reduceCtorEq,mxD,mxB,Nat.reduceAdd,reduceIte,Nat.reduceLeDiff,splice]
   have hxk:∀C C',Ext (H'.up k) (((H'.up k).push (.cells C Qc false)).set k (.cells C' Qc false)):=fun C C'=>((Ext.refl _).push _).set (by rw[Qa.next_up];exact Nat.le_refl _) _
   have hwk:∀C C',(((H'.up k).push (.cells C Qc false)).set k (.cells C' Qc false)).Wf:=fun C C'=>(hw2.push _).set (b0:=.cells C Qc false) (by rw[Qa.get_push,if_pos (by rw[Qa.next_up])]) _
   have gkk:∀C C',(((H'.up k).push (.cells C Qc false)).set k (.cells C' Qc false)).get k=some (.cells C' Qc false):=fun C C'=>by rw[Qa.get_set,if_pos rfl]
   generalize hH2:((H'.up k).push _).set k _=H2
   have hx2:Ext (H'.up k) H2:=by rw[← hH2];exact hxk _ _
   have hw3:H2.Wf:=by rw[← hH2];exact hwk _ _
   have gk:H2.get k=some (.cells [.int .i64 ck,.int .i64 crc,.int .i64 crn,.int .i64 cbc,.int .i64 cbn,.int .i64 cic,.int .i64 cin,.int .i64 csc,.int .i64 cd,.int .i64 csz,.int .i64 cn] Qc false):=by rw[← hH2];exact gkk _ _
   clear hH2 hxk hwk gkk
   cases h3:ck==3 with
   | false=>
    rw[h3]at hstep
    simp only[X9,ZU,Qih,Qhj,QT,JU,Nat.reduceBEq,bf,bt,QaD,QdG,cond_false,cond_true]
    refine hrest _ ⟨ck,⟨crc,crn⟩,⟨⟨cbc,cbn⟩,⟨cic,cin⟩,csc,cd,csz⟩,cn⟩ _ _ _ ?_ hx2 hw3 ?_ ?_ ?_ ?_ ?_ gk
    ·intro B w' H3 hL3 q6
     exact hstep B w' H3 (by simpa using hL3) q6
    all_goals simp only[uxA,uxB,Nat.reduceBEq,r6]
   | true=>
    rw[h3]at hstep
    have hnk:=hx2.next
    rw[Qa.next_up]at hnk
    simp(disch:=(first | omega | ((repeat (first | rw[Qa.next_push] | rw[Qa.next_set] | rw[Qa.next_up]));done) | ((repeat (first | rw[Qa.next_push] | rw[Qa.next_set] | rw[Qa.next_up]));omega))) only[YD,sxA,sxB,Nat.reduceBEq,Nat.reduceEqDiff,reduceCtorEq,mxD,mxB,Nat.reduceAdd,reduceIte,Nat.reduceLeDiff,splice,hL.r1,g0k H2 hx2]
    refine(Qf5 op _ l H2 (hv.ext hw ⟨by omega,fun id hid=>by rw[hx2.get id (by rw[Qa.next_up];omega),Qa.get_up];exact hxH.get id hid⟩) (by omega)).thenW ?_
    rintro _ _ hn4 hw4 ⟨rfl,k4,rfl⟩
    have hkl:=hw3.lt gk
    simp(disch:=(first | omega | ((repeat (first | rw[Qa.next_push] | rw[Qa.next_set] | rw[Qa.next_up]));done) | ((repeat (first | rw[Qa.next_push] | rw[Qa.next_set] | rw[Qa.next_up]));omega))) only[sxA,sxB,Nat.reduceBEq,Nat.reduceEqDiff,reduceCtorEq,mxD,mxB,Nat.reduceAdd,reduceIte,Nat.reduceLeDiff,splice,gk]
    refine(Qhf cn _ _ hcn _).thenW ?_
    rintro _ _ hn5 hw5 ⟨rfl,rfl⟩
    simp only[Wp,XB,XF,Zf,QpR,QpS,QpT,QhE,Qec,QnO,Qim,QeZ,Qa.get_up,gk,QcC,Qhj,QT,JU,WA,Qbc,Nat.reduceBEq,bf,bt,cond_false,cond_true,Nat.zero_add,Qe1]
    refine⟨⟨rfl,by simp,rfl⟩,?_⟩
    refine hrest _ ⟨ck,⟨crc,crn⟩,⟨⟨cbc,cbn⟩,⟨cic,cin⟩,csc,cd,csz⟩,(Yw cn (Wn op l).1 (Wn op l).2).1⟩ _ _ _ ?_ ((hx2.up hn4).set (by rw[Qa.next_up];exact Nat.le_refl _) _) (hw5.set (by rw[Qa.get_up];exact gk) _) ?_ ?_ ?_ ?_ ?_ ?_
    ·intro B w' H3 hL3 q6
     exact hstep B w' H3 (by simpa using hL3) q6
    all_goals (try simp only[uxA,uxB,Nat.reduceBEq,r6])
    rw[Qa.get_set,if_pos rfl]
    rfl
  ·have h2:i=l.length:=by have:=of_decide_eq_false h2;omega
   subst h2
   rw[List.take_length]at hL
   simp only[sxA,sxB,Nat.reduceBEq,Nat.reduceEqDiff,reduceCtorEq]
   refine hend w _ _ ⟨hL.wf,hL.x,?_,?_,?_,hL.gD,hL.gs,hL.ap⟩
   ·simp only[uxA,uxB,Nat.reduceBEq];exact hL.r1
   ·simp only[uxA,uxB,Nat.reduceBEq];exact hL.r2
   ·simp only[uxA,uxB,Nat.reduceBEq];exact hL.r5
end
theorem Qjp (op:Int) (v:Value) (l:List Ar) (H:Qa) (hv:QY H v l) (hl:l.length≤1000) (hI:∀a∈l,I64 a.n):Qf prog ZA [.agg #[.int .i64 op,v]] H (Qt0 op l H):=by
 refine Qcb fun hw=>?_
 obtain⟨a0,cap,rfl⟩:=XG hv
 simp(disch:=(first | omega | ((repeat (first | rw[Qa.next_push] | rw[Qa.next_set] | rw[Qa.next_up]));done) | ((repeat (first | rw[Qa.next_push] | rw[Qa.next_set] | rw[Qa.next_up]));omega))) only[KX,sxA,sxB,Nat.reduceBEq,Nat.reduceEqDiff,reduceCtorEq,mxD,mxB,Nat.reduceAdd,reduceIte,Nat.reduceLeDiff,splice]
 generalize hH1:(H.push _).push _=H1
 have hx1:Ext H H1:=by rw[← hH1];exact((Ext.refl H).push _).push _
 have hn1:H1.next=H.next+2:=by rw[← hH1];rfl
 have g0:H1.get H.next=some (.cells [.int .i64 op,.slice a0 l.length cap] Qb false):=by rw[← hH1,Qa.get_push,if_neg (by rw[Qa.next_push];omega),Qa.get_push,if_pos rfl]
 have g1:H1.get (H.next+1)=some (.cells [.int .i64 0,.slice none 0 0] Qb false):=by rw[← hH1,Qa.get_push,if_pos (by rw[Qa.next_push])]
 have hw1:H1.Wf:=by rw[← hH1];exact(hw.push _).push _
 clear hH1
 refine(Qjo op _ l H1 (hv.ext hw hx1) hl hI).thenW ?_
 rintro _ _ hn2 hw2 ⟨rfl,k,rfl⟩
 have hk:H.next+2≤k:=by rw[← hn1];exact hn2
 cases hc:WG op l==0 with
 | false=>
  simp(disch:=(first | omega | ((repeat (first | rw[Qa.next_push] | rw[Qa.next_set] | rw[Qa.next_up]));done) | ((repeat (first | rw[Qa.next_push] | rw[Qa.next_set] | rw[Qa.next_up]));omega))) only[sxA,sxB,Nat.reduceBEq,Nat.reduceEqDiff,reduceCtorEq,mxD,mxB,Nat.reduceAdd,reduceIte,Nat.reduceLeDiff,splice,hc,g1,Kt]
  have hcan:=Qo8 hc
  have hx2:Ext H ((H1.up k).set (H.next+1) (.cells [.int .i64 0,.slice none 0 0] Qb false)):=(hx1.up hn2).set (by omega) _
  refine .mk hx2.next ⟨hx2,_,by rw[hcan],?_⟩
  rw[hcan]
  exact⟨none,0,rfl,fun h=>absurd h (Nat.lt_irrefl 0)⟩
 | true=>
  have hc0:WG op l=0:=beq_iff_eq.1 hc
  simp(disch:=(first | omega | ((repeat (first | rw[Qa.next_push] | rw[Qa.next_set] | rw[Qa.next_up]));done) | ((repeat (first | rw[Qa.next_push] | rw[Qa.next_set] | rw[Qa.next_up]));omega))) only[Jx,sxA,sxB,Nat.reduceBEq,Nat.reduceEqDiff,reduceCtorEq,mxD,mxB,Nat.reduceAdd,reduceIte,Nat.reduceLeDiff,splice,hc,g0]
  have hl4:l.length≤4:=Qfg hc
  have hL:=fun A q1 q2 q5 q6=>Qr2 (op:=op) hw hv hl4 hI hc0 (HC:=H1.up k) (D:=k) hw2 (hx1.up hn2) rfl hk (by rw[Qa.get_up];exact g0) (by rw[Qa.get_up];exact g1) A (((H1.up k).push (.cells [.int .i64 0,.slice none 0 0] Qb false)).set k (.cells [.int .i64 op,.slice none 0 0] Qb false)) ⟨(hw2.push _).set (b0:=.cells [.int .i64 0,.slice none 0 0] Qb false) (by rw[Qa.get_push,if_pos (by rw[Qa.next_up])]) _,((Ext.refl _).push _).set (by rw[Qa.next_up];exact Nat.le_refl _) _,q1,q2,q5,by rw[Qa.get_set,if_pos rfl],.inl ⟨rfl,rfl,rfl⟩,fun⟨_,_,_,h⟩=>by cases h⟩ q6
  simp only[X9,Kg]at hL
  refine hL _ ?_ ?_ ?_ ?_
  all_goals simp only[uxA,uxB,Nat.reduceBEq]
end Go.Proofs.YtdjkkoacinpdeaaGreatDoor.code
