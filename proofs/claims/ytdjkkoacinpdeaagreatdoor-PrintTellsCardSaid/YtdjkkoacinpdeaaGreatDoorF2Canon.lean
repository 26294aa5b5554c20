/- The document's canon of an instruction. -/
import Derived.Test.YtdjkkoacinpdeaaGreatDoorLibE
set_option linter.unusedVariables false
set_option linter.unusedSimpArgs false
set_option maxRecDepth 100000
set_option maxHeartbeats 4000000
noncomputable section
namespace Go.Proofs.YtdjkkoacinpdeaaGreatDoor.code
open Go.Ab
def cF (ib:Int×Bool) (a:Ar):Ar:=if((QP a).1.k==3)=true then {(QP a).1 with n:=(Yw (QP a).1.n ib.1 ib.2).1} else(QP a).1
theorem Ql0 (ib:Int×Bool):∀l:List Ar,Qaq l=0→Qcw ib l=0→Wv ib l=(l.map (cF ib),0)
 | [],_,_=>rfl
 | a::l,h1,h2=>by
  have ha:(Wu a==0)=true:=by
   unfold Qaq at h1
   split at h1
   ·assumption
   ·rename_i h9;rw[h1]at h9;exact absurd rfl h9
  have h1':Qaq l=0:=by unfold Qaq at h1;rw[if_pos ha]at h1;exact h1
  have hE:QP a=(Kc a,0):=by unfold QP;rw[if_pos ha]
  have hk:(Kc a).k=a.k:=by unfold Kc;split;rfl;split<;>rfl
  have hn:(a.k==3)=true→(Kc a).n=a.n:=fun h=>by
   have:=beq_iff_eq.1 h
   unfold Kc;rw[this];rfl
  have key:Jp ib a=(cF ib a,0)∧Qcw ib l=0:=by
   unfold Qcw at h2
   unfold Jp cF
   rw[hE]
   simp only[hk]
   cases h3:a.k==3 with
   | false=>rw[h3]at h2;exact⟨rfl,by simpa using h2⟩
   | true=>
    rw[h3]at h2
    simp only[if_true]at h2
    cases h4:(Yw a.n ib.1 ib.2).2==0 with
    | true=>
     rw[h4]at h2
     rw[hn h3]
     refine⟨?_,by simpa using h2⟩
     simp[beq_iff_eq.1 h4]
    | false=>
     rw[h4]at h2
     have:(Yw a.n ib.1 ib.2).2=0:=by simpa using h2
     rw[this]at h4;exact absurd h4 (by simp)
  unfold Wv
  rw[key.1,Ql0 ib l h1' key.2]
  rfl
theorem Qo7 {op:Int} {l:List Ar} (h:WG op l=0):Wy op l=(op,X4 op (l.map (cF (Wn op l))),0):=by
 have hr:=Qj3 op l
 rw[h]at hr
 have:Qaq l=0∧Qcw (Wn op l) l=0:=by
  unfold VJ at hr
  split at hr
  ·omega
  split at hr
  ·omega
  split at hr
  ·rename_i h9;rw[hr]at h9;exact absurd h9 (by simp)
  rename_i h9
  split at hr
  ·omega
  exact⟨by simpa using h9,hr⟩
 unfold Wy
 rw[h,Ql0 _ l this.1 this.2]
 rfl
theorem Qo8 {op:Int} {l:List Ar} (h:(WG op l==0)=false):Wy op l=(0,[],WG op l):=by
 unfold Wy
 rw[if_pos h]
theorem QtZ {size e n:Nat} {H0 H:Qa} {v:Value} {cs:List Value} (h:Gs size e H0 H v n cs) (hs:0<size):QkF H v n cs:=by
 rcases h with⟨rfl,rfl,rfl⟩ | ⟨b,rfl,h1,h2,h3⟩
 ·exact⟨none,0,rfl,fun h=>absurd h (Nat.lt_irrefl 0)⟩
 ·exact⟨_,_,rfl,fun _=>⟨b,e,false,rfl,h2⟩⟩
def Qt0 (op:Int) (l:List Ar) (H:Qa) (u:Value) (H':Qa):Prop:=
 Ext H H'∧∃v',u=.tuple #[.agg #[.int .i64 (Wy op l).1,v'],.int .i64 (Wy op l).2.2]∧QY H' v' (Wy op l).2.1
section
variable {H:Qa} {op:Int} {l:List Ar}
abbrev KD (H:Qa) (op:Int) (l:List Ar):Env→Qa→Prop:=Rt prog Qc7 H (Qt0 op l H)
structure CnF (H:Qa) (op:Int) (v:Value) (D:Nat) (w:Value) (m:List Ar) (A:Env) (H':Qa):Prop where
 x:Ext H H'
 lt:H.next+2≤D
 r1:A 1=.pointer (some ⟨H.next,0,none⟩)
 r2:A 2=.pointer (some ⟨H.next+1,0,none⟩)
 r5:A 5=.pointer (some ⟨D,0,none⟩)
 g0:H'.get H.next=some (.cells [.int .i64 op,v] Qb false)
 g1:H'.get (H.next+1)=some (.cells [.int .i64 0,.slice none 0 0] Qb false)
 gD:H'.get D=some (.cells [.int .i64 op,w] Qb false)
 ars:QY H' w m
 hi:∀id,JF w id→D<id
theorem CnF.ext {v w:Value} {D:Nat} {m:List Ar} {A B:Env} {H1 H2:Qa} (h:CnF H op v D w m A H1) (hw:H1.Wf) (hx:Ext H1 H2) (e1:B 1=A 1) (e2:B 2=A 2) (e5:B 5=A 5):CnF H op v D w m B H2:=by
 have hn:=hx.next
 exact⟨⟨by have:=h.x.next;omega,fun id hid=>by rw[hx.get id (by have:=h.x.next;omega)];exact h.x.get id hid⟩,h.lt,e1.trans h.r1,e2.trans h.r2,e5.trans h.r5,by rw[hx.get _ (hw.lt h.g0)];exact h.g0,by rw[hx.get _ (hw.lt h.g1)];exact h.g1,by rw[hx.get _ (hw.lt h.gD)];exact h.gD,h.ars.ext hw hx,h.hi⟩
def QeM:PC:=(.seq (.ops [Ow 134 (.ld true 2 (t 5)),Ov (.st 2 (t 2) (t 134)),Om 3 (Ci 0)]) .ret)
theorem Qtn {v w:Value} {D:Nat} {m:List Ar} {A:Env} {H1:Qa} (hw1:H1.Wf) (hF:CnF H op v D w m A H1) (hm:Wy op l=(op,m,0)) (e:Nat→Env→Qa→Prop):
  Qj prog QeM ⟨KD H op l,e⟩ (KD H op l) A H1:=by
 obtain⟨hx,hlt,r1,r2,r5,g0,g1,gD,hars,hhi⟩:=hF
 obtain⟨ca,cap,rfl⟩:=XG hars
 simp(disch:=(first | omega | ((repeat (first | rw[Qa.next_push] | rw[Qa.next_set] | rw[Qa.next_up]));done) | ((repeat (first | rw[Qa.next_push] | rw[Qa.next_set] | rw[Qa.next_up]));omega))) only[QeM,sxA,sxB,Nat.reduceBEq,Nat.reduceEqDiff,reduceCtorEq,mxD,mxB,Nat.reduceAdd,reduceIte,Nat.reduceLeDiff,splice,r2,r5,gD,g1,Kt]
 have hx2:Ext H (H1.set (H.next+1) (.cells [.int .i64 op,.slice ca m.length cap] Qb false)):=hx.set (by omega) _
 refine .mk hx2.next ⟨hx2,_,by rw[hm],?_⟩
 rw[hm]
 obtain⟨a1,cap1,e1,h1⟩:=hars
 cases e1
 refine⟨ca,cap,rfl,fun hn=>?_⟩
 obtain⟨b,e',ro,rfl,hb⟩:=h1 hn
 have:=hhi b ⟨_,_,_,rfl⟩
 exact⟨b,e',ro,rfl,by rw[Qa.get_set,if_neg (by omega)];exact hb⟩
theorem Qnj {v w w':Value} {D:Nat} {m m':List Ar} {A:Env} {H1 H2:Qa} (hw1:H1.Wf) (hF:CnF H op v D w m A H1) (hx:Ext H1 H2) (hw2:H2.Wf) (ha:QY H2 w' m') (hn:∀id,JF w' id→H1.next≤id) {B:Env} (e1:B 1=A 1) (e2:B 2=A 2) (e5:B 5=A 5):
  CnF H op v D w' m' B (H2.set D (.cells [.int .i64 op,w'] Qb false)):=by
 have h:=hF.ext (B:=B) hw1 hx e1 e2 e5
 have hD:=hw1.lt hF.gD
 refine⟨h.x.set (by have:=h.lt;omega) _,h.lt,h.r1,h.r2,h.r5,?_,?_,by rw[Qa.get_set,if_pos rfl],?_,fun id hid=>by have:=hn id hid;omega⟩
 ·rw[Qa.get_set,if_neg (by have:=h.lt;omega)];exact h.g0
 ·rw[Qa.get_set,if_neg (by have:=h.lt;omega)];exact h.g1
 ·obtain⟨a,cap,rfl,h1⟩:=ha
  refine⟨a,cap,rfl,fun hn0=>?_⟩
  obtain⟨b,e,ro,rfl,hb⟩:=h1 hn0
  have:=hn b ⟨_,_,_,rfl⟩
  exact⟨b,e,ro,rfl,by rw[Qa.get_set,if_neg (by omega)];exact hb⟩
theorem QqF {op:Int} {l:List Ar} (h:Qhr op l=true):∃x y,l=[x,y]:=by
 match l,h with
 | [x,y],_=>exact⟨x,y,rfl⟩
theorem Qto:Q6=(.seq (.block 2 (.seq (.ops [Ow 60 (.fldA 0 (t 1)),Ow 61 (.ld false 1 (t 60)),Ow 62 (.bin .eql (t 61) (Ci 16)),Om 63 (t 62),Og 64 (.ld true 2 (t 5)) 63 true,Og 65 (.call WH [(t 64),(Ci 1),(Ci 3)]) 63 true,Ow 66 (.pick (t 63) (t 65) (.const (.bool false))),Om 59 (t 66)]) (.cond (t 59) YB Q5))) QeM):=rfl
theorem QqG {v w:Value} {D:Nat} {m:List Ar} {A:Env} {H1:Qa} (hw1:H1.Wf) (hF:CnF H op v D w m A H1) (hml:m.length≤4) (hm:Wy op l=(op,X4 op m,0)):
  Qj prog Q6 ⟨KD H op l,Y8⟩ (KD H op l) A H1:=by
 have hend:∀ (w:Value) (m:List Ar) (A:Env) (H1:Qa),H1.Wf→CnF H op v D w m A H1→Wy op l=(op,m,0)→Qj prog QeM ⟨KD H op l,Y8⟩ (KD H op l) A H1:=fun w m A H1 a b c=>Qtn a b c Y8
 have hF0:=hF
 obtain⟨hx,hlt,r1,r2,r5,g0,g1,gD,hars,hhi⟩:=hF
 have hD:=hw1.lt gD
 have hsw:∀ (x y:Ar) (ks:Kp) (A2:Env) (H2:Qa),m=[x,y]→H2.Wf→Ext H1 H2→A2 1=A 1→A2 2=A 2→A2 5=A 5→X4 op m=[y,x]→Qj prog (.ops [Ow 94 (.ld true 2 (t 5)),Ow 95 (.call WK [(t 94)]),Ov (.st 2 (t 5) (t 95))]) ks (Qj prog QeM ⟨KD H op l,Y8⟩ (KD H op l)) A2 H2:=by
  intro x y ks A2 H2 hm2 hw2 hx2 q1 q2 q5 hr
  have hF2:=hF0.ext hw1 hx2 q1 q2 q5
  subst hm2
  simp(disch:=(first | omega | ((repeat (first | rw[Qa.next_push] | rw[Qa.next_set] | rw[Qa.next_up]));done) | ((repeat (first | rw[Qa.next_push] | rw[Qa.next_set] | rw[Qa.next_up]));omega))) only[sxA,sxB,Nat.reduceBEq,Nat.reduceEqDiff,reduceCtorEq,mxD,mxB,Nat.reduceAdd,reduceIte,Nat.reduceLeDiff,splice,hF2.r5,hF2.gD]
  refine(Qf6 op w x y H2 hF2.ars).thenW ?_
  rintro _ H3 hn3 hw3 ⟨v',rfl,ha3,hx3,hn'⟩
  obtain⟨b,cap,hb⟩:=XG ha3
  have gD3:H3.get D=some (.cells [.int .i64 op,w] Qb false):=by rw[hx3.get D (hw2.lt hF2.gD)];exact hF2.gD
  subst hb
  simp(disch:=(first | omega | ((repeat (first | rw[Qa.next_push] | rw[Qa.next_set] | rw[Qa.next_up]));done) | ((repeat (first | rw[Qa.next_push] | rw[Qa.next_set] | rw[Qa.next_up]));omega))) only[sxA,sxB,Nat.reduceBEq,Nat.reduceEqDiff,reduceCtorEq,mxD,mxB,Nat.reduceAdd,reduceIte,Nat.reduceLeDiff,splice,hF2.r5,gD3]
  refine hend (.slice b ([y,x]:List Ar).length cap) [y,x] _ _ (hw3.set gD3 _) ?_ (by rw[hm,hr])
  refine Qnj hw2 hF2 hx3 hw3 ha3 hn' ?_ ?_ ?_
  all_goals simp only[uxA,uxB,Nat.reduceBEq]
 have hsw2:∀ (x y:Ar) (ks:Kp) (A2:Env) (H2:Qa),m=[x,y]→H2.Wf→Ext H1 H2→A2 1=A 1→A2 2=A 2→A2 5=A 5→X4 op m=[y,x]→Qj prog (.ops [Ow 132 (.ld true 2 (t 5)),Ow 133 (.call WK [(t 132)]),Ov (.st 2 (t 5) (t 133))]) ks (Qj prog QeM ⟨KD H op l,Y8⟩ (KD H op l)) A2 H2:=by
  intro x y ks A2 H2 hm2 hw2 hx2 q1 q2 q5 hr
  have hF2:=hF0.ext hw1 hx2 q1 q2 q5
  subst hm2
  simp(disch:=(first | omega | ((repeat (first | rw[Qa.next_push] | rw[Qa.next_set] | rw[Qa.next_up]));done) | ((repeat (first | rw[Qa.next_push] | rw[Qa.next_set] | rw[Qa.next_up]));omega))) only[sxA,sxB,Nat.reduceBEq,Nat.reduceEqDiff,reduceCtorEq,mxD,mxB,Nat.reduceAdd,reduceIte,Nat.reduceLeDiff,splice,hF2.r5,hF2.gD]
  refine(Qf6 op w x y H2 hF2.ars).thenW ?_
  rintro _ H3 hn3 hw3 ⟨v',rfl,ha3,hx3,hn'⟩
  obtain⟨b,cap,hb⟩:=XG ha3
  have gD3:H3.get D=some (.cells [.int .i64 op,w] Qb false):=by rw[hx3.get D (hw2.lt hF2.gD)];exact hF2.gD
  subst hb
  simp(disch:=(first | omega | ((repeat (first | rw[Qa.next_push] | rw[Qa.next_set] | rw[Qa.next_up]));done) | ((repeat (first | rw[Qa.next_push] | rw[Qa.next_set] | rw[Qa.next_up]));omega))) only[sxA,sxB,Nat.reduceBEq,Nat.reduceEqDiff,reduceCtorEq,mxD,mxB,Nat.reduceAdd,reduceIte,Nat.reduceLeDiff,splice,hF2.r5,gD3]
  refine hend (.slice b ([y,x]:List Ar).length cap) [y,x] _ _ (hw3.set gD3 _) ?_ (by rw[hm,hr])
  refine Qnj hw2 hF2 hx3 hw3 ha3 hn' ?_ ?_ ?_
  all_goals simp only[uxA,uxB,Nat.reduceBEq]
 have his:∀ (x y:Int) (H2:Qa),H2.Wf→Ext H1 H2→Qf prog WH [.agg #[.int .i64 op,w],.int .i64 x,.int .i64 y] H2 fun u H'=>u=.bool (Vu x y m)∧∃k,H'=H2.up k:=fun x y H2 hw2 hx2=>Qni op w m x y H2 (hars.ext hw1 hx2) (by omega)
 -- nothing more
 have hno:∀ (A2:Env) (H2:Qa),H2.Wf→Ext H1 H2→A2 1=A 1→A2 2=A 2→A2 5=A 5→X4 op m=m→Qj prog QeM ⟨KD H op l,Y8⟩ (KD H op l) A2 H2:=fun A2 H2 hw2 hx2 q1 q2 q5 hr=>hend w m _ _ hw2 (hF0.ext hw1 hx2 q1 q2 q5) (by rw[hm,hr])
 -- ranked
 have P3:∀ (A2:Env) (H2:Qa) (ks:Kp),H2.Wf→Ext H1 H2→A2 1=A 1→A2 2=A 2→A2 5=A 5→QiI op m=false→Qji op m=false→Qj prog YC ks (Qj prog QeM ⟨KD H op l,Y8⟩ (KD H op l)) A2 H2:=by
  intro A2 H2 ks hw2 hx2 q1 q2 q5 h1 h2
  have hF2:=hF0.ext hw1 hx2 q1 q2 q5
  have hr:X4 op m=if Qhr op m=true then m.reverse else m:=by unfold X4;rw[h1,h2];simp
  simp(disch:=(first | omega | ((repeat (first | rw[Qa.next_push] | rw[Qa.next_set] | rw[Qa.next_up]));done) | ((repeat (first | rw[Qa.next_push] | rw[Qa.next_set] | rw[Qa.next_up]));omega))) only[YC,sxA,sxB,Nat.reduceBEq,Nat.reduceEqDiff,reduceCtorEq,mxD,mxB,Nat.reduceAdd,reduceIte,Nat.reduceLeDiff,splice,hF2.r1,hF2.r5,hF2.g0,hF2.gD]
  have hrno:(op==11)=false∨Vu 1 1 m=false→X4 op m=m:=fun h=>by
   rw[hr,if_neg]
   intro hk
   obtain⟨x,y,hxy⟩:=QqF hk
   rw[hxy]at hk h
   have hk2:((op==11)&&(((x.k==1)&&(y.k==1))&&(x.r.c==y.r.c))&&!(decide (x.r.n≤y.r.n)))=true:=hk
   simp only[Bool.and_eq_true]at hk2
   rcases h with h | h
   ·rw[hk2.1.1]at h;cases h
   ·have:Vu 1 1 [x,y]=((x.k==1)&&(y.k==1)):=rfl
    rw[this,hk2.1.2.1.1,hk2.1.2.1.2]at h
    cases h
  cases h11:op==11 with
  | false=>
   simp(disch:=(first | omega | ((repeat (first | rw[Qa.next_push] | rw[Qa.next_set] | rw[Qa.next_up]));done) | ((repeat (first | rw[Qa.next_push] | rw[Qa.next_set] | rw[Qa.next_up]));omega))) only[sxA,sxB,Nat.reduceBEq,Nat.reduceEqDiff,reduceCtorEq,mxD,mxB,Nat.reduceAdd,reduceIte,Nat.reduceLeDiff,splice]
   refine hno _ _ hw2 hx2 ?_ ?_ ?_ (hrno (.inl h11))
   all_goals simp only[uxA,uxB,Nat.reduceBEq,q1,q2,q5]
  | true=>
   simp(disch:=(first | omega | ((repeat (first | rw[Qa.next_push] | rw[Qa.next_set] | rw[Qa.next_up]));done) | ((repeat (first | rw[Qa.next_push] | rw[Qa.next_set] | rw[Qa.next_up]));omega))) only[sxA,sxB,Nat.reduceBEq,Nat.reduceEqDiff,reduceCtorEq,mxD,mxB,Nat.reduceAdd,reduceIte,Nat.reduceLeDiff,splice,hF2.r5,hF2.gD]
   refine(his 1 1 _ hw2 hx2).thenW ?_
   rintro _ _ hn3 hw3 ⟨rfl,k3,rfl⟩
   have hx3:Ext H1 (H2.up k3):=hx2.up hn3
   cases hA:Vu 1 1 m with
   | false=>
    simp(disch:=(first | omega | ((repeat (first | rw[Qa.next_push] | rw[Qa.next_set] | rw[Qa.next_up]));done) | ((repeat (first | rw[Qa.next_push] | rw[Qa.next_set] | rw[Qa.next_up]));omega))) only[sxA,sxB,Nat.reduceBEq,Nat.reduceEqDiff,reduceCtorEq,mxD,mxB,Nat.reduceAdd,reduceIte,Nat.reduceLeDiff,splice]
    refine hno _ _ hw3 hx3 ?_ ?_ ?_ (hrno (.inr hA))
    all_goals simp only[uxA,uxB,Nat.reduceBEq,q1,q2,q5]
   | true=>
    obtain⟨x,y,rfl⟩:=QbL hA
    have hF3:=hF0.ext (B:=A2) hw1 hx3 q1 q2 q5
    obtain⟨a0,cap,hwv⟩:=XG hF3.ars
    have hars3:=hF3.ars
    rw[hwv]at hars3
    obtain⟨b,rfl,hbl,⟨e,ro,hgb⟩,d1,d3,htk,hle,hk,hn,ei⟩:=atI (H:=H2.up k3) (H':=H2.up k3) hars3 hw3 (.refl _) (by simp) (i:=0) (a:=x) rfl
    have gD3:=hF3.gD
    rw[hwv]at gD3
    have c0:(0:Int)≤0∧(0:Int)<(([x,y]:List Ar).length:Int):=by simp
    have c1:(0:Int)≤1∧(1:Int)<(([x,y]:List Ar).length:Int):=by simp
    have z0:(0:Int).toNat=0:=rfl
    have z1:(1:Int).toNat=1:=rfl
    have f0:(Qh [x,y])[0 * 11+1]? = some (.int .i64 x.r.c):=rfl
    have f1:(Qh [x,y])[0 * 11+1+1]? = some (.int .i64 x.r.n):=rfl
    have f2:(Qh [x,y])[1 * 11+1]? = some (.int .i64 y.r.c):=rfl
    have f3:(Qh [x,y])[1 * 11+1+1]? = some (.int .i64 y.r.n):=rfl
    simp only[Nat.zero_mul,Nat.one_mul,Nat.zero_add]at f0 f1 f2 f3
    simp only[Nat.reduceAdd]at f0 f1 f2 f3
    have hrr:X4 op [x,y]=if((x.r.c==y.r.c)&&decide (y.r.n<x.r.n))=true then[y,x] else[x,y]:=by
     rw[hr]
     have hk2:(x.k==1)=true∧(y.k==1)=true:=by
      have:Vu 1 1 [x,y]=((x.k==1)&&(y.k==1)):=rfl
      rw[this]at hA
      simpa using hA
     have:Qhr op [x,y]=((x.r.c==y.r.c)&&decide (y.r.n<x.r.n)):=by
      show((op==11)&&Qct [x,y]&&!(decide (x.r.n≤y.r.n)))=_
      rw[h11]
      show(true&&(((x.k==1)&&(y.k==1))&&(x.r.c==y.r.c))&&!(decide (x.r.n≤y.r.n)))=_
      rw[hk2.1,hk2.2]
      simp only[Bool.true_and]
      congr 1
      by_cases hle:x.r.n≤y.r.n
      ·rw[decide_eq_true hle,decide_eq_false (by omega)];rfl
      ·rw[decide_eq_false hle,decide_eq_true (by omega)];rfl
     rw[this]
     rfl
    generalize Qh [x,y]=C at f0 f1 f2 f3 hgb
    generalize ([x,y]:List Ar).length=len at gD3 c0 c1
    simp(disch:=(first | omega | ((repeat (first | rw[Qa.next_push] | rw[Qa.next_set] | rw[Qa.next_up]));done) | ((repeat (first | rw[Qa.next_push] | rw[Qa.next_set] | rw[Qa.next_up]));omega))) only[Jv,sxA,sxB,Nat.reduceBEq,Nat.reduceEqDiff,reduceCtorEq,mxD,mxB,Nat.reduceAdd,reduceIte,Nat.reduceLeDiff,splice,hF3.r5,gD3,c0,c1,z0,z1,hgb,f0,f1,f2,f3]
    cases hcc:x.r.c==y.r.c with
    | false=>
     simp(disch:=(first | omega | ((repeat (first | rw[Qa.next_push] | rw[Qa.next_set] | rw[Qa.next_up]));done) | ((repeat (first | rw[Qa.next_push] | rw[Qa.next_set] | rw[Qa.next_up]));omega))) only[sxA,sxB,Nat.reduceBEq,Nat.reduceEqDiff,reduceCtorEq,mxD,mxB,Nat.reduceAdd,reduceIte,Nat.reduceLeDiff,splice]
     refine hno _ _ hw3 hx3 ?_ ?_ ?_ (by rw[hrr,hcc];rfl)
     all_goals simp only[uxA,uxB,Nat.reduceBEq,q1,q2,q5]
    | true=>
     simp(disch:=(first | omega | ((repeat (first | rw[Qa.next_push] | rw[Qa.next_set] | rw[Qa.next_up]));done) | ((repeat (first | rw[Qa.next_push] | rw[Qa.next_set] | rw[Qa.next_up]));omega))) only[sxA,sxB,Nat.reduceBEq,Nat.reduceEqDiff,reduceCtorEq,mxD,mxB,Nat.reduceAdd,reduceIte,Nat.reduceLeDiff,splice,hF3.r5,gD3,c0,c1,z0,z1,hgb,f0,f1,f2,f3]
     cases hnn:decide (y.r.n<x.r.n) with
     | false=>
      simp(disch:=(first | omega | ((repeat (first | rw[Qa.next_push] | rw[Qa.next_set] | rw[Qa.next_up]));done) | ((repeat (first | rw[Qa.next_push] | rw[Qa.next_set] | rw[Qa.next_up]));omega))) only[sxA,sxB,Nat.reduceBEq,Nat.reduceEqDiff,reduceCtorEq,mxD,mxB,Nat.reduceAdd,reduceIte,Nat.reduceLeDiff,splice]
      refine hno _ _ hw3 hx3 ?_ ?_ ?_ (by rw[hrr,hcc,hnn];rfl)
      all_goals simp only[uxA,uxB,Nat.reduceBEq,q1,q2,q5]
     | true=>
      simp only[ZU,Qhj,QT,JU,Nat.reduceBEq,bf,bt,QaD,QhD,cond_true]
      have hrl:X4 op [x,y]=[y,x]:=by rw[hrr,hcc,hnn];rfl
      refine hsw2 x y _ _ _ rfl hw3 hx3 ?_ ?_ ?_ hrl
      all_goals simp only[uxA,uxB,Nat.reduceBEq,q1,q2,q5]
 -- placed
 have P4:∀ (A2:Env) (H2:Qa) (ks:Kp),H2.Wf→Ext H1 H2→A2 1=A 1→A2 2=A 2→A2 5=A 5→QiI op m=false→Qj prog Q5 ks (Qj prog QeM ⟨KD H op l,Y8⟩ (KD H op l)) A2 H2:=by
  intro A2 H2 ks hw2 hx2 q1 q2 q5 h1
  have hF2:=hF0.ext hw1 hx2 q1 q2 q5
  have hpl:Qji op m=((op==10||op==11)&&Vu 1 2 m):=rfl
  cases h10:op==10 with
  | true=>
   have hop:(op==10||op==11)=true:=by rw[h10];rfl
   simp(disch:=(first | omega | ((repeat (first | rw[Qa.next_push] | rw[Qa.next_set] | rw[Qa.next_up]));done) | ((repeat (first | rw[Qa.next_push] | rw[Qa.next_set] | rw[Qa.next_up]));omega))) only[Q5,sxA,sxB,Nat.reduceBEq,Nat.reduceEqDiff,reduceCtorEq,mxD,mxB,Nat.reduceAdd,reduceIte,Nat.reduceLeDiff,splice,hF2.r1,hF2.r5,hF2.g0,hF2.gD,h10]
   refine(his 1 2 _ hw2 hx2).thenW ?_
   rintro _ _ hn3 hw3 ⟨rfl,k3,rfl⟩
   have hx3:Ext H1 (H2.up k3):=hx2.up hn3
   cases hA:Vu 1 2 m with
   | false=>
    simp only[Wp,XB,XF,Zf,Qeb,G1,QcC,ZU,Qhj,QT,JU,WA,Nat.reduceBEq,bf,bt,QaD,QdG,cond_false,cond_true]
    refine P3 _ _ _ hw3 hx3 ?_ ?_ ?_ h1 (by rw[hpl,hA,Bool.and_false])
    all_goals simp only[uxA,uxB,Nat.reduceBEq,q1,q2,q5]
   | true=>
    obtain⟨x,y,hxy⟩:=QbL hA
    simp only[Wp,XB,XF,Zf,Qeb,G1,QcC,ZU,Qhj,QT,JU,WA,Nat.reduceBEq,bf,bt,QaD,QhD,cond_false,cond_true]
    refine hsw x y _ _ _ hxy hw3 hx3 ?_ ?_ ?_ (by unfold X4;rw[h1,hpl,hA,hop,hxy];rfl)
    all_goals simp only[uxA,uxB,Nat.reduceBEq,q1,q2,q5]
  | false=>
   cases h11:op==11 with
   | true=>
    have hop:(op==10||op==11)=true:=by rw[h11,Bool.or_true]
    simp(disch:=(first | omega | ((repeat (first | rw[Qa.next_push] | rw[Qa.next_set] | rw[Qa.next_up]));done) | ((repeat (first | rw[Qa.next_push] | rw[Qa.next_set] | rw[Qa.next_up]));omega))) only[Q5,sxA,sxB,Nat.reduceBEq,Nat.reduceEqDiff,reduceCtorEq,mxD,mxB,Nat.reduceAdd,reduceIte,Nat.reduceLeDiff,splice,hF2.r1,hF2.r5,hF2.g0,hF2.gD,h10,h11]
    refine(his 1 2 _ hw2 hx2).thenW ?_
    rintro _ _ hn3 hw3 ⟨rfl,k3,rfl⟩
    have hx3:Ext H1 (H2.up k3):=hx2.up hn3
    cases hA:Vu 1 2 m with
    | false=>
     simp only[Wp,XB,XF,Zf,Qeb,G1,QcC,ZU,Qhj,QT,JU,WA,Nat.reduceBEq,bf,bt,QaD,QdG,cond_false,cond_true]
     refine P3 _ _ _ hw3 hx3 ?_ ?_ ?_ h1 (by rw[hpl,hA,Bool.and_false])
     all_goals simp only[uxA,uxB,Nat.reduceBEq,q1,q2,q5]
    | true=>
     obtain⟨x,y,hxy⟩:=QbL hA
     simp only[Wp,XB,XF,Zf,Qeb,G1,QcC,ZU,Qhj,QT,JU,WA,Nat.reduceBEq,bf,bt,QaD,QhD,cond_false,cond_true]
     refine hsw x y _ _ _ hxy hw3 hx3 ?_ ?_ ?_ (by unfold X4;rw[h1,hpl,hA,hop,hxy];rfl)
     all_goals simp only[uxA,uxB,Nat.reduceBEq,q1,q2,q5]
   | false=>
    simp(disch:=(first | omega | ((repeat (first | rw[Qa.next_push] | rw[Qa.next_set] | rw[Qa.next_up]));done) | ((repeat (first | rw[Qa.next_push] | rw[Qa.next_set] | rw[Qa.next_up]));omega))) only[Q5,sxA,sxB,Nat.reduceBEq,Nat.reduceEqDiff,reduceCtorEq,mxD,mxB,Nat.reduceAdd,reduceIte,Nat.reduceLeDiff,splice,hF2.r1,hF2.r5,hF2.g0,hF2.gD,h10,h11]
    refine P3 _ _ _ hw2 hx2 ?_ ?_ ?_ h1 (by rw[hpl,h10,h11];rfl)
    all_goals simp only[uxA,uxB,Nat.reduceBEq,q1,q2,q5]
 have hdb:QiI op m=((op==16)&&Vu 1 3 m):=rfl
 simp only[Qto,X9,Kg]
 cases h16:op==16 with
 | false=>
  simp(disch:=(first | omega | ((repeat (first | rw[Qa.next_push] | rw[Qa.next_set] | rw[Qa.next_up]));done) | ((repeat (first | rw[Qa.next_push] | rw[Qa.next_set] | rw[Qa.next_up]));omega))) only[sxA,sxB,Nat.reduceBEq,Nat.reduceEqDiff,reduceCtorEq,mxD,mxB,Nat.reduceAdd,reduceIte,Nat.reduceLeDiff,splice,r1,r5,g0,gD,h16]
  refine P4 _ _ _ hw1 (.refl _) ?_ ?_ ?_ (by rw[hdb,h16];rfl)
  all_goals simp only[uxA,uxB,Nat.reduceBEq]
 | true=>
  simp(disch:=(first | omega | ((repeat (first | rw[Qa.next_push] | rw[Qa.next_set] | rw[Qa.next_up]));done) | ((repeat (first | rw[Qa.next_push] | rw[Qa.next_set] | rw[Qa.next_up]));omega))) only[sxA,sxB,Nat.reduceBEq,Nat.reduceEqDiff,reduceCtorEq,mxD,mxB,Nat.reduceAdd,reduceIte,Nat.reduceLeDiff,splice,r1,r5,g0,gD,h16]
  refine(his 1 3 _ hw1 (.refl _)).thenW ?_
  rintro _ _ hn3 hw3 ⟨rfl,k3,rfl⟩
  have hx3:Ext H1 (H1.up k3):=(Ext.refl H1).up hn3
  cases hA:Vu 1 3 m with
  | false=>
   simp only[Wp,XB,XF,Zf,Qeb,G1,QcC,ZU,Qhj,QT,JU,WA,Nat.reduceBEq,bf,bt,QaD,QdG,cond_false,cond_true]
   refine P4 _ _ _ hw3 hx3 ?_ ?_ ?_ (by rw[hdb,hA,Bool.and_false])
   all_goals simp only[uxA,uxB,Nat.reduceBEq]
  | true=>
   obtain⟨x,y,hxy⟩:=QbL hA
   subst hxy
   have hF3:=hF0.ext (B:=A) hw1 hx3 rfl rfl rfl
   obtain⟨a0,cap,hwv⟩:=XG hF3.ars
   have hars3:=hF3.ars
   rw[hwv]at hars3
   obtain⟨b,rfl,hbl,⟨e,ro,hgb⟩,d1,d3,htk,hle,hk,hn,ei⟩:=atI (H:=H1.up k3) (H':=H1.up k3) hars3 hw3 (.refl _) (by simp) (i:=0) (a:=x) rfl
   obtain⟨b',hbb,hbl',⟨e',ro',hgb'⟩,d1',d3',htk',hle',hk',hn',ei'⟩:=atI (H:=H1.up k3) (H':=H1.up k3) hars3 hw3 (.refl _) (by simp) (i:=1) (a:=y) rfl
   cases hbb
   have gD3:=hF3.gD
   rw[hwv]at gD3
   have hrl:X4 op [x,y]=[x,x,y]:=by unfold X4;rw[hdb,h16,hA];rfl
   have c0:(0:Int)≤0∧(0:Int)<(([x,y]:List Ar).length:Int):=by simp
   have c1:(0:Int)≤1∧(1:Int)<(([x,y]:List Ar).length:Int):=by simp
   have z0:(0:Int).toNat=0:=rfl
   have z1:(1:Int).toNat=1:=rfl
   simp only[Nat.zero_mul,Nat.one_mul,Nat.zero_add,List.drop_zero]at htk htk' hle hle'
   have hcc:Qh [x,x,y]=x.cells++(x.cells++y.cells):=by simp[Qh]
   have hput:=fun(H2:Qa) (w':Value) (hx2:Ext (H1.up k3) H2) (hw2:H2.Wf) (ha:QY H2 w' [x,x,y]) (hnn:∀id,JF w' id→(H1.up k3).next≤id) (B:Env) (e1:B 1=A 1) (e2:B 2=A 2) (e5:B 5=A 5)=>Qnj (A:=A) hw3 hF3 hx2 hw2 ha hnn e1 e2 e5
   generalize ([x,y]:List Ar).length=len at gD3 c0 c1
   generalize Qh [x,y]=C at hgb hgb' htk htk' hle hle'
   have hrx:=hrl
   unfold QY at hput
   rw[hcc]at hput
   clear hcc hk hk' hn hn' hwv
   have hfin:∀ (w':Value) (A2:Env) (H2:Qa),H2.Wf→CnF H op v D w' [x,x,y] A2 H2→Qj prog QeM ⟨KD H op l,Y8⟩ (KD H op l) A2 H2:=fun w' A2 H2 a b=>hend w' [x,x,y] A2 H2 a b (by rw[hm,hrl])
   have hwf3:=hw3
   have hD3:D<k3:=by have:=hw3.lt gD3;exact this
   clear hm hrl hrx hF0 hF3 hend hsw hsw2 his hno P3 P4 hars hars3 hA hdb
   obtain⟨pk,⟨prc,prn⟩,⟨⟨pbc,pbn⟩,⟨pic,pin⟩,psc,pd,psz⟩,pn⟩:=x
   obtain⟨qk,⟨qrc,qrn⟩,⟨⟨qbc,qbn⟩,⟨qic,qin⟩,qsc,qd,qsz⟩,qn⟩:=y
   simp only[Ar.cells,List.cons_append,List.nil_append]at htk htk' hput
   simp(disch:=(first | omega | ((repeat (first | rw[Qa.next_push] | rw[Qa.next_set] | rw[Qa.next_up]));done) | ((repeat (first | rw[Qa.next_push] | rw[Qa.next_set] | rw[Qa.next_up]));omega))) only[YB,sxA,sxB,Nat.reduceBEq,Nat.reduceEqDiff,reduceCtorEq,mxD,mxB,Nat.reduceAdd,reduceIte,Nat.reduceLeDiff,splice,r5,gD3,c0,c1,z0,z1,hgb,htk,htk',hle,hle',Nat.zero_add]
   rw[if_pos (by decide)]
   simp(disch:=(first | omega | ((repeat (first | rw[Qa.next_push] | rw[Qa.next_set] | rw[Qa.next_up]));done) | ((repeat (first | rw[Qa.next_push] | rw[Qa.next_set] | rw[Qa.next_up]));omega))) only[sxA,sxB,Nat.reduceBEq,Nat.reduceEqDiff,reduceCtorEq,mxD,mxB,Nat.reduceAdd,reduceIte,Nat.reduceLeDiff,splice,r5,gD3]
   refine hfin (.slice (some ⟨k3,0,none⟩) 3 3) _ _ ((hwf3.push _).set (b0:=.cells [.int .i64 op,.slice (some ⟨b,0,none⟩) len cap] Qb false) (by rw[Qa.get_push,if_neg (by rw[Qa.next_up];omega)];exact gD3) _) (hput _ _ ((Ext.refl _).push _) (hwf3.push _) ⟨_,_,rfl,fun _=>⟨k3,Qc,false,rfl,?_⟩⟩ (fun id ⟨_,_,_,h⟩=>by cases h;exact Nat.le_refl _) _ ?_ ?_ ?_)
   ·rw[Qa.get_push,if_pos (by rw[Qa.next_up])]
   all_goals simp only[uxA,uxB,Nat.reduceBEq]
end
end Go.Proofs.YtdjkkoacinpdeaaGreatDoor.code
