/- inst.Canon. -/
import Derived.Test.YtdjkkoacinpdeaaGreatDoorLibJ
set_option linter.unusedVariables false
set_option linter.unusedSimpArgs false
set_option maxRecDepth 100000
set_option maxHeartbeats 4000000
noncomputable section
namespace Go.Proofs.YtdjkkoacinpdeaaGreatDoor.code
open Go.Ab
theorem Qj2 (a:Ar) (h:I64 a.n):I64 (QP a).1.n:=by
 have h0:I64 0:=by unfold I64;omega
 unfold QP Kc
 split
 ·split
  ·exact h0
  ·split
   ·exact h0
   ·exact h
 ·exact h0
theorem Qnb (c:List Value) (o:Nat) (l:List Value) (h:o+l.length≤c.length):(splice c o l).length=c.length:=by
 simp[splice];omega
theorem Qjk (c:List Value) (o:Nat) (l:List Value) (h:o≤c.length) (j:Nat) (hj:j<o):(splice c o l)[j]? = c[j]? := by
 unfold splice
 rw[List.getElem?_append_left (by simp;omega),List.getElem?_take,if_pos hj]
theorem Qo2 (c:List Value) (o:Nat) (v:Value) (h:o<c.length):(splice c o [v])[o]? = some v:=by
 unfold splice
 rw[List.getElem?_append_right (by simp;omega)]
 simp[show min o c.length=o by omega]
theorem QaZ (l m:List Ar):Qh (l++m)=Qh l++Qh m:=by simp[Qh]
theorem Qjl (d:List Ar) (a b:Ar) (l:List Ar):splice (Qh (d++a::l)) (d.length * 11) b.cells=Qh (d++b::l):=by
 have hd:=QV d
 unfold splice
 rw[QaZ,QaZ,KE,KE,← hd,List.take_left,We]
 have:(Qh d++(a.cells++Qh l)).drop ((Qh d).length+11)=Qh l:=by
  rw[show(Qh d).length+11=(Qh d).length+a.cells.length by rw[We],← List.drop_drop,List.drop_left,List.drop_left]
 rw[this]
theorem Qug (f:Fn) (xs ys:Array Value):(Value.func f xs ys).cells.toList=[.func f xs ys]:=Eq.trans rfl rfl
theorem Quh (f:Fn) (xs ys:Array Value):(Value.func f xs ys).oneCell'=true:=Eq.trans rfl rfl
theorem Qti {P:Program} (f:FuncId) (l:List Value) (H:Qa) (k:Value→Qa→Prop):cvK (.func (.func f) #[] #[]) P l H k=Qf P f l H k:=by
 show Qf P f (([]:List Value)++l++[]) H k=_
 rw[List.nil_append,List.append_nil]
theorem QaK (a:Ar):List.take 11 a.cells=a.cells:=rfl
theorem Qcu (a:Ar):(a.cells.all fun v=>v.oneCell')=true:=rfl
theorem Qfg {op:Int} {l:List Ar} (h:(WG op l==0)=true):l.length≤4:=by
 unfold WG at h
 split at h
 ·simp at h
 ·split at h
  ·simp at h
  ·omega
def Qeh (op:Int) (l:List Ar) (H:Qa) (u:Value) (H':Qa):Prop:=
 Ext H H'∧∃v',u=.tuple #[.agg #[.int .i64 (Wy op l).1,v'],.int .i64 (Wy op l).2.2]∧QY H' v' (Wy op l).2.1∧∀a n c,v'=.slice (some a) n c→H.next≤a.block
theorem QkV {op:Int} {l:List Ar} {H H':Qa} (hx:Ext H H') {e:Int} (h:Wy op l=(0,[],e)):Qeh op l H (.tuple #[.agg #[.int .i64 0,.slice none 0 0],.int .i64 e]) H':=by
 unfold Qeh
 rw[h]
 exact⟨hx,_,rfl,⟨none,0,rfl,fun h=>absurd h (Nat.lt_irrefl 0)⟩,fun a n c h=>by cases h⟩
def QkW:PC:=(.seq (.ops [⟨some 105,.mv (t 7),none,false⟩,⟨some 106,.gen (.nilCheck (t 105)),none,false⟩,⟨some 107,.fldA 0 (t 106),none,false⟩,⟨some 108,.ld false 1 (t 107),none,false⟩,⟨some 109,.mv (t 7),none,false⟩,⟨some 110,.gen (.nilCheck (t 109)),none,false⟩,⟨some 111,.fldA 1 (t 110),none,false⟩,⟨some 112,.ld false 1 (t 111),none,false⟩,⟨some 113,.build [.int .i64 0,.slice none 0 0] [(0,1,(t 108)),(1,1,(t 112))],none,false⟩,⟨none,.st 2 (t 2) (t 113),none,false⟩,⟨some 3,.mv (.const (.int .i64 0)),none,false⟩]) .ret)
section
variable (op:Int) (l:List Ar) (H:Qa)
abbrev KC:Env→Qa→Prop:=Rt prog Qco H (Qeh op l H)
theorem QqB (e:Nat→Env→Qa→Prop) (k:Env→Qa→Prop) (A:Env) (H':Qa) (D:Nat) (cv:Value) (m:List Ar) (hx:Ext H H') (hD:H.next+2≤D)
  (r2:A 2=.pointer (some ⟨H.next+1,0,none⟩)) (r7:A 7=.pointer (some ⟨D,0,none⟩)) (gR:H'.get (H.next+1)=some (.cells [.int .i64 0,.slice none 0 0] Qb false))
  (gD:H'.get D=some (.cells [.int .i64 op,cv] QN false)) (hc:QY H' cv m) (hf:∀a n c,cv=.slice (some a) n c→H.next+2≤a.block) (hm:Wy op l=(op,m,0)):
  Qj prog QkW
   ⟨KC op l H,e⟩ k A H':=by
 obtain⟨ca,cap,rfl,h1⟩:=hc
 simp only[QkW,sxA,sxB,Nat.reduceBEq,Nat.reduceEqDiff,reduceCtorEq,mxA,mxB,Nat.reduceAdd,reduceIte,Nat.reduceLeDiff,splice,r2,r7,gR,gD,Gg]
 have hx2:Ext H (H'.set (H.next+1) (.cells [.int .i64 op,.slice ca m.length cap] Qb false)):=hx.set (by omega) _
 refine .mk hx2.next ⟨hx2,_,by rw[hm],?_,fun a n c h=>by have:=hf a n c h;omega⟩
 rw[hm]
 refine⟨ca,cap,rfl,fun hn=>?_⟩
 obtain⟨b,e',ro,rfl,hb⟩:=h1 hn
 have:=hf _ _ _ rfl
 simp only at this
 exact⟨b,e',ro,rfl,by rw[Qa.get_set,if_neg (by omega)];exact hb⟩
theorem QlV {α:Type} {l:List α} (h:l.length=2):∃x y,l=[x,y]:=by
 match l,h with
 | [x,y],_=>exact⟨x,y,rfl⟩
theorem Qnc {m:List Ar} (h1:QiI op m=false) (h2:Qji op m=false) (h3:Qhr op m=false):X4 op m=m:=by simp[X4,h1,h2,h3]
theorem Qo3 (e:Nat→Env→Qa→Prop) (k:Env→Qa→Prop) (A:Env) (H':Qa) (D:Nat) (cv:Value) (m:List Ar) (hx:Ext H H') (hw:H'.Wf) (hD:H.next+2≤D)
  (r2:A 2=.pointer (some ⟨H.next+1,0,none⟩)) (r7:A 7=.pointer (some ⟨D,0,none⟩)) (gR:H'.get (H.next+1)=some (.cells [.int .i64 0,.slice none 0 0] Qb false))
  (gD:H'.get D=some (.cells [.int .i64 op,cv] QN false)) (hc:QY H' cv m) (hl:m.length≤1000) (hf:∀a n c,cv=.slice (some a) n c→H.next+2≤a.block∧¬a.block=D)
  (hw1:∀x y,m=[x,y]→∃b cap,cv=.slice (some ⟨b,0,none⟩) 2 cap∧H'.get b=some (.cells (Qh m) Qc false)) (hm:Wy op l=(op,X4 op m,0)):
  Qj prog JW ⟨KC op l H,e⟩ k A H':=by
 have tail:=fun A2 H2 cv2 m2 hx2 a b c d f g h=>QqB op l H e k A2 H2 D cv2 m2 hx2 hD a b c d f g h
 have hDn:=hw.lt gD
 have hxn:=hx.next
 have hRn:=hw.lt gR
 obtain⟨n6,e6⟩:∃n6,JW=.seq (.seq (.ops [⟨some 95,.bslice n6 1 3 [.nilFunc,.nilFunc,.nilFunc] [(0,(.func WJ)),(1,(.func W4)),(2,(.func W5))],none,false⟩,⟨some 96,.lenS (t 95),none,false⟩,⟨some 97,.mv (.const (.int .i64 0)),none,false⟩]) (.block 4 (.loop VE))) QkW:=⟨_,rfl⟩
 rw[e6,X9]
 generalize hT:Qj prog QkW ⟨KC op l H,e⟩ k=T
 have tailT:=fun A2 H2 cv2 m2 hx2 a b c d f g h=>(by rw[← hT];exact tail A2 H2 cv2 m2 hx2 a b c d f g h:T A2 H2)
 simp(disch:=(first | omega | ((repeat (first | rw[Qa.next_push] | rw[Qa.next_set] | rw[Qa.next_up]));done) | ((repeat (first | rw[Qa.next_push] | rw[Qa.next_set] | rw[Qa.next_up]));omega))) only[sxA,sxB,Nat.reduceBEq,Nat.reduceEqDiff,reduceCtorEq,mxD,mxB,Nat.reduceAdd,reduceIte,Nat.reduceLeDiff,splice,Qug,Quh,Nat.reduceMul,Nat.reduceLeDiff,if_true]
 generalize hbl:Blk.cells [.func (.func WJ) #[] #[],.func (.func W4) #[] #[],.func (.func W5) #[] #[]] _ false=bl
 have hxp:Ext H' (H'.push bl):=(Ext.refl _).push _
 have gF:(H'.push bl).get H'.next=some bl:=by rw[Qa.get_push,if_pos rfl]
 have hwp:=hw.push bl
 have hpn:(H'.push bl).next=H'.next+1:=rfl
 generalize hHp:H'.push bl=Hp at hxp gF hwp hpn
 subst hbl
 have hxHp:=hx.trans hxp
 have gDp:Hp.get D=some (.cells [.int .i64 op,cv] QN false):=by rw[hxp.get _ hDn];exact gD
 have gRp:Hp.get (H.next+1)=some (.cells [.int .i64 0,.slice none 0 0] Qb false):=by rw[hxp.get _ hRn];exact gR
 have hcp:QY Hp cv m:=hc.ext hw hxp
 have hw1p:∀x y,m=[x,y]→∃b cap,cv=.slice (some ⟨b,0,none⟩) 2 cap∧Hp.get b=some (.cells (Qh m) Qc false):=fun x y h=>by
  obtain⟨b,cap,h1,h2⟩:=hw1 x y h
  exact⟨b,cap,h1,by rw[hxp.get _ (hw.lt h2)];exact h2⟩
 have q1:=QoX D op cv m Hp gDp hcp hl hw1p
 have q2:=Qqu D op cv m Hp gDp hcp hl hw1p
 have q3:=Qqv D op cv m Hp gDp hcp hl hw1p
 have hsw:∀x y,m=[x,y]→∀b cap,cv=.slice (some ⟨b,0,none⟩) 2 cap→Wy op l=(op,[y,x],0)→∀A2,A2 2=.pointer (some ⟨H.next+1,0,none⟩)→A2 7=.pointer (some ⟨D,0,none⟩)→T A2 ((Hp.set b (.cells (Qh [y,y]) Qc false)).set b (.cells (Qh [y,x]) Qc false)):=by
  intro x y hxy b cap hcv hm2 A2 a2 a7
  have hbn:=hf _ _ _ hcv
  simp only at hbn
  refine tailT A2 _ cv [y,x] ((hxHp.set (by omega) _).set (by omega) _) a2 a7 ?_ ?_ ⟨some ⟨b,0,none⟩,cap,by rw[hcv];rfl,fun _=>⟨b,_,_,rfl,by rw[Qa.get_set,if_pos rfl]⟩⟩ (fun a n c h=>(hf a n c h).1) hm2
  ·rw[Qa.get_set,if_neg (by omega),Qa.get_set,if_neg (by omega)];exact gRp
  ·rw[Qa.get_set,if_neg (by omega),Qa.get_set,if_neg (by omega)];exact gDp
 refine Wq (fun m' A2 H2=>∃i:Nat,i≤3∧m'=3 - i∧H2=Hp∧A2 2=.pointer (some ⟨H.next+1,0,none⟩)∧A2 7=.pointer (some ⟨D,0,none⟩)∧A2 95=.slice (some ⟨H'.next,0,none⟩) 3 3∧A2 96=.int .i64 ((3:Nat):Int)∧A2 97=.int .i64 i∧(0<i→QiI op m=false)∧(1<i→Qji op m=false)∧(2<i→Qhr op m=false)) 3 ?_ ?_
 ·refine⟨0,Nat.zero_le _,by omega,rfl,?_,?_,?_,?_,?_,fun h=>by omega,fun h=>by omega,fun h=>by omega⟩
  all_goals simp only[uxA,uxB,Nat.reduceBEq,r2,r7]
  all_goals rfl
 ·rintro m' A2 H2 ⟨i,hi,rfl,rfl,a2,a7,a95,a96,a97,n1,n2,n3⟩
  simp only[VE,QcP,sxA,sxB,Nat.reduceBEq,Nat.reduceEqDiff,reduceCtorEq,mxA,mxB,Nat.reduceAdd,reduceIte,Nat.reduceLeDiff,splice,a96,a97]
  refine Qe (fun h2=>?_) (fun h2=>?_)
  ·have h2:i<3:=by have:=of_decide_eq_true h2;omega
   have c1:(0:Int)≤i∧(i:Int)<((3:Nat):Int):=by omega
   have c3:(i:Int).toNat=i:=by omega
   have ei:IntKind.i64.wrap ((i:Int)+1)=((i+1:Nat):Int):=by rw[w64 (by unfold I64;omega)];omega
   simp only[sxA,sxB,Nat.reduceBEq,Nat.reduceEqDiff,reduceCtorEq,mxA,mxB,Nat.reduceAdd,reduceIte,Nat.reduceLeDiff,splice,a7,a95,a97,c1,c3,gF]
   obtain rfl | rfl | rfl:i=0∨i=1∨i=2:=by omega
   ·simp only[sxA,sxB,Nat.reduceBEq,Nat.reduceEqDiff,reduceCtorEq,mxA,mxB,Nat.reduceAdd,reduceIte,Nat.reduceLeDiff,splice,Qti]
    refine q1.thenW ?_
    rintro _ H3 hn3 hw3 ⟨rfl,hF,hTr⟩
    simp only[sxA,sxB,Nat.reduceBEq,Nat.reduceEqDiff,reduceCtorEq,mxA,mxB,Nat.reduceAdd,reduceIte,Nat.reduceLeDiff,splice]
    cases hd:QiI op m with
    | false=>
     rw[hF hd]
     simp only[sxA,sxB,Nat.reduceBEq,Nat.reduceEqDiff,reduceCtorEq,mxA,mxB,Nat.reduceAdd,reduceIte,Nat.reduceLeDiff,splice,a97,ei]
     refine⟨2,by omega,1,by omega,rfl,rfl,?_,?_,?_,?_,?_,fun _=>(by first | exact hd | trivial),fun h=>by omega,fun h=>by omega⟩
     all_goals simp only[uxA,uxB,Nat.reduceBEq,a2,a7,a95,a96]
    | true=>
     obtain⟨x,y,hxy,hH3⟩:=hTr hd
     have hr:X4 op m=[x,x,y]:=by unfold X4;rw[if_pos hd,hxy]
     simp only[sxA,sxB,Nat.reduceBEq,Nat.reduceEqDiff,reduceCtorEq,mxA,mxB,Nat.reduceAdd,reduceIte,Nat.reduceLeDiff,splice]
     rw[hH3]
     refine tailT _ _ (.slice (some ⟨H2.next,0,none⟩) 3 3) [x,x,y] ((hxHp.push _).set (by omega) _) (by first | exact a2 | simp only[uxA,uxB,Nat.reduceBEq,a2]) (by first | exact a7 | simp only[uxA,uxB,Nat.reduceBEq,a7]) ?_ ?_ ⟨_,_,rfl,fun _=>⟨H2.next,_,_,rfl,by rw[Qa.get_set,if_neg (by omega),Qa.get_push,if_pos rfl]⟩⟩ (fun a n c h=>by cases h;simp only;omega) (by rw[hm,hr])
     ·rw[Qa.get_set,if_neg (by omega),Qa.get_push,if_neg (by omega)];exact gRp
     ·rw[Qa.get_set,if_pos rfl]
   ·have hd:=n1 (by omega)
    simp only[sxA,sxB,Nat.reduceBEq,Nat.reduceEqDiff,reduceCtorEq,mxA,mxB,Nat.reduceAdd,reduceIte,Nat.reduceLeDiff,splice,Qti]
    refine q2.thenW ?_
    rintro _ H3 hn3 hw3 ⟨rfl,hF,hTr⟩
    simp only[sxA,sxB,Nat.reduceBEq,Nat.reduceEqDiff,reduceCtorEq,mxA,mxB,Nat.reduceAdd,reduceIte,Nat.reduceLeDiff,splice]
    cases hp:Qji op m with
    | false=>
     rw[hF hp]
     simp only[sxA,sxB,Nat.reduceBEq,Nat.reduceEqDiff,reduceCtorEq,mxA,mxB,Nat.reduceAdd,reduceIte,Nat.reduceLeDiff,splice,a97,ei]
     refine⟨1,by omega,2,by omega,rfl,rfl,?_,?_,?_,?_,?_,fun _=>(by first | exact hd | trivial),fun _=>(by first | exact hp | trivial),fun h=>by omega⟩
     all_goals simp only[uxA,uxB,Nat.reduceBEq,a2,a7,a95,a96]
    | true=>
     obtain⟨x,y,b,cap,hxy,hcv,hH3⟩:=hTr hp
     have hr:X4 op m=[y,x]:=by simp only[X4,hd,hp];rw[hxy];rfl
     simp only[sxA,sxB,Nat.reduceBEq,Nat.reduceEqDiff,reduceCtorEq,mxA,mxB,Nat.reduceAdd,reduceIte,Nat.reduceLeDiff,splice]
     rw[hH3]
     exact hsw x y hxy b cap hcv (by rw[hm,hr]) _ (by first | exact a2 | simp only[uxA,uxB,Nat.reduceBEq,a2]) (by first | exact a7 | simp only[uxA,uxB,Nat.reduceBEq,a7])
   ·have hd:=n1 (by omega)
    have hp:=n2 (by omega)
    simp only[sxA,sxB,Nat.reduceBEq,Nat.reduceEqDiff,reduceCtorEq,mxA,mxB,Nat.reduceAdd,reduceIte,Nat.reduceLeDiff,splice,Qti]
    refine q3.thenW ?_
    rintro _ H3 hn3 hw3 ⟨rfl,hF,hTr⟩
    simp only[sxA,sxB,Nat.reduceBEq,Nat.reduceEqDiff,reduceCtorEq,mxA,mxB,Nat.reduceAdd,reduceIte,Nat.reduceLeDiff,splice]
    cases hq:Qhr op m with
    | false=>
     rw[hF hq]
     simp only[sxA,sxB,Nat.reduceBEq,Nat.reduceEqDiff,reduceCtorEq,mxA,mxB,Nat.reduceAdd,reduceIte,Nat.reduceLeDiff,splice,a97,ei]
     refine⟨0,by omega,3,by omega,rfl,rfl,?_,?_,?_,?_,?_,fun _=>(by first | exact hd | trivial),fun _=>(by first | exact hp | trivial),fun _=>(by first | exact hq | trivial)⟩
     all_goals simp only[uxA,uxB,Nat.reduceBEq,a2,a7,a95,a96]
    | true=>
     obtain⟨x,y,b,cap,hxy,hcv,hH3⟩:=hTr hq
     have hr:X4 op m=[y,x]:=by simp only[X4,hd,hp,hq];rw[hxy];rfl
     simp only[sxA,sxB,Nat.reduceBEq,Nat.reduceEqDiff,reduceCtorEq,mxA,mxB,Nat.reduceAdd,reduceIte,Nat.reduceLeDiff,splice]
     rw[hH3]
     exact hsw x y hxy b cap hcv (by rw[hm,hr]) _ (by first | exact a2 | simp only[uxA,uxB,Nat.reduceBEq,a2]) (by first | exact a7 | simp only[uxA,uxB,Nat.reduceBEq,a7])
  ·have h2:i=3:=by have:=of_decide_eq_false h2;omega
   subst h2
   simp only[sxA,sxB,Nat.reduceBEq,Nat.reduceEqDiff,reduceCtorEq,mxA,mxB,Nat.reduceAdd,reduceIte,Nat.reduceLeDiff,splice]
   exact tailT _ _ cv m hxHp (by first | exact a2 | simp only[uxA,uxB,Nat.reduceBEq,a2]) (by first | exact a7 | simp only[uxA,uxB,Nat.reduceBEq,a7]) gRp gDp hcp (fun a n c h=>(hf a n c h).1) (by rw[hm,Qnc op (n1 (by omega)) (n2 (by omega)) (n3 (by omega))])
theorem QqC (b:Ar) (x:Int):splice b.cells 10 [.int .i64 x]=({b with n:=x}:Ar).cells:=by simp[splice,Ar.cells]
theorem QlW (ib:Int×Bool):Wv ib []=([],0):=rfl
theorem QqD (e:Nat→Env→Qa→Prop) (k:Env→Qa→Prop) (A:Env) (H':Qa) (D V cb cap:Nat) (ca:Option Addr) (vs:List Value) (eV:TypeId) (hx:Ext H H') (hw:H'.Wf) (hD:H.next+2≤D) (hV:H.next+2≤V) (hDV:¬D=V)
  (r2:A 2=.pointer (some ⟨H.next+1,0,none⟩)) (r5:A 5=.int .i64 (Wn op l).1) (r6:A 6=.bool (Wn op l).2) (r7:A 7=.pointer (some ⟨D,0,none⟩)) (r8:A 8=.slice (some ⟨V,0,none⟩) l.length l.length)
  (gR:H'.get (H.next+1)=some (.cells [.int .i64 0,.slice none 0 0] Qb false))
  (gD:H'.get D=some (.cells [.int .i64 op,.slice ca l.length cap] QN false)) (gV:H'.get V=some (.cells vs eV false)) (hvl:vs.length=l.length) (hvs:∀j,j<l.length→vs[j]? = some (.pointer (some ⟨cb,j * 11,none⟩)))
  (hcb:0<l.length→ca=some ⟨cb,0,none⟩∧H.next+2≤cb∧¬cb=D∧¬cb=V∧H'.get cb=some (.cells (Qh l) Qc false)) (hca:∀a,ca=some a→H.next+2≤a.block∧¬a.block=D)
  (hck:(WG op l==0)=true) (hI:∀a∈l,I64 a.n):Qj prog Jf ⟨KC op l H,e⟩ k A H':=by
 have hl4:=Qfg hck
 have e12:Jf=.seq (.seq (.ops [⟨some 58,.mv (t 8),none,false⟩,⟨some 59,.lenS (t 58),none,false⟩,⟨some 60,.mv (.const (.int .i64 0)),none,false⟩]) (.block 2 (.loop G8))) JX:=rfl
 rw[e12,X9]
 have e7:JX=.seq (.label 0) JW:=rfl
 generalize hT:Qj prog JX ⟨KC op l H,e⟩ k=T
 generalize hib:Wn op l=ib at *
 obtain⟨ib1,ib2⟩:=ib
 simp only at r5 r6
 have hic:∀m,Wv (ib1,ib2) l=(m,0)→Wy op l=(op,X4 op m,0):=fun m h=>by
  unfold Wy
  rw[hib,h,hck]
  rfl
 have hie:∀m x,Wv (ib1,ib2) l=(m,x)→(x==0)=false→Wy op l=(0,[],x):=fun m x h hx=>by
  unfold Wy
  rw[hib,h,hck]
  simp[hx]
 simp only[sxA,sxB,Nat.reduceBEq,Nat.reduceEqDiff,reduceCtorEq,mxA,mxB,Nat.reduceAdd,reduceIte,Nat.reduceLeDiff,splice,r8]
 refine Wq (fun m' A2 H2=>∃ (i:Nat) (dn:List Ar),i≤l.length∧m'=l.length - i∧dn.length=i∧Wv (ib1,ib2) l=(dn++(Wv (ib1,ib2) (l.drop i)).1,(Wv (ib1,ib2) (l.drop i)).2)∧Ext H H2∧H2.Wf∧
  A2 2=.pointer (some ⟨H.next+1,0,none⟩)∧A2 5=.int .i64 ib1∧A2 6=.bool ib2∧A2 7=.pointer (some ⟨D,0,none⟩)∧A2 58=.slice (some ⟨V,0,none⟩) l.length l.length∧A2 59=.int .i64 (l.length:Int)∧A2 60=.int .i64 i∧
  H2.get (H.next+1)=some (.cells [.int .i64 0,.slice none 0 0] Qb false)∧H2.get D=some (.cells [.int .i64 op,.slice ca l.length cap] QN false)∧H2.get V=some (.cells vs eV false)∧(0<l.length→H2.get cb=some (.cells (Qh (dn++l.drop i)) Qc false))) l.length ?_ ?_
 ·refine⟨0,[],Nat.zero_le _,by omega,rfl,rfl,hx,hw,?_,?_,?_,?_,?_,?_,?_,gR,gD,gV,fun h=>(hcb h).2.2.2.2⟩
  all_goals simp only[uxA,uxB,Nat.reduceBEq,r2,r5,r6,r7]
  all_goals rfl
 ·rintro m' A2 H2 ⟨i,dn,hi,rfl,hdn,hcan,hx2,hw2,a2,a5,a6,a7,a58,a59,a60,gR,gD,gV,gC⟩
  simp only[G8,sxA,sxB,Nat.reduceBEq,Nat.reduceEqDiff,reduceCtorEq,mxA,mxB,Nat.reduceAdd,reduceIte,Nat.reduceLeDiff,splice,a59,a60]
  refine Qe (fun h2=>?_) (fun h2=>?_)
  ·have h2:i<l.length:=by have:=of_decide_eq_true h2;omega
   obtain⟨hca1,hcb2,hcD,hcV,_⟩:=hcb (by omega)
   have gC:=gC (by omega)
   have c1:(0:Int)≤i∧(i:Int)<l.length:=by omega
   have c3:(i:Int).toNat=i:=by omega
   have ei:IntKind.i64.wrap ((i:Int)+1)=((i+1:Nat):Int):=by rw[w64 (by unfold I64;omega)];omega
   have hv:=hvs i h2
   have hp:=List.getElem?_eq_getElem h2
   have hdr:l.drop i=l[i]::l.drop (i+1):=List.drop_eq_getElem_cons h2
   have had:=Qf1 (ib1,ib2) l i _ hp
   have hIa:=hI _ (List.getElem_mem h2)
   generalize l[i]=a at hp hdr had hIa
   rw[hdr]at gC
   have hlen:=QV (dn++a::l.drop (i+1))
   have hla:(dn++a::l.drop (i+1)).length=l.length:=by simp;omega
   rw[hla]at hlen
   have c4:i * 11+11≤l.length * 11:=by omega
   have d1:=Y6 (dn++a::l.drop (i+1)) i a (by rw[List.getElem?_append_right (by omega),hdn,Nat.sub_self];rfl)
   simp only[Qbw,sxA,sxB,Nat.reduceBEq,Nat.reduceEqDiff,reduceCtorEq,mxA,mxB,Nat.reduceAdd,reduceIte,Nat.reduceLeDiff,splice,a58,a60,c1,c3,gV,hv,gC,hlen,c4,d1]
   refine(Qhq a H2).thenW ?_
   rintro _ _ hn3 hw3 ⟨rfl,k3,rfl⟩
   simp only[Qa.next_up]at hn3
   have hn':=Qj2 a hIa
   have hca2:Jp (ib1,ib2) a=if((QP a).2==0)=false then(a,(QP a).2) else if((QP a).1.k==3)=true then({(QP a).1 with n:=(Yw (QP a).1.n ib1 ib2).1},(Yw (QP a).1.n ib1 ib2).2) else((QP a).1,0):=rfl
   generalize QP a=bb at hn' hca2
   obtain⟨b,be⟩:=bb
   simp only at hn' hca2
   have hx3:=hx2.up hn3
   have gR3:(H2.up k3).get (H.next+1)=some (.cells [.int .i64 0,.slice none 0 0] Qb false):=by rw[Qa.get_up];exact gR
   have gD3:(H2.up k3).get D=some (.cells [.int .i64 op,.slice ca l.length cap] QN false):=by rw[Qa.get_up];exact gD
   have gV3:(H2.up k3).get V=some (.cells vs eV false):=by rw[Qa.get_up];exact gV
   have gC3:(H2.up k3).get cb=some (.cells (Qh (dn++a::l.drop (i+1))) Qc false):=by rw[Qa.get_up];exact gC
   generalize H2.up k3=H3 at hw3 hx3 gR3 gD3 gV3 gC3
   simp only[sxA,sxB,Nat.reduceBEq,Nat.reduceEqDiff,reduceCtorEq,mxA,mxB,Nat.reduceAdd,reduceIte,Nat.reduceLeDiff,splice,We,QaK,Qcu]
   obtain⟨H4,hH4⟩:∃h,h=(H3.push (.cells [.int .i64 0,.int .i64 0,.int .i64 0,.int .i64 0,.int .i64 0,.int .i64 0,.int .i64 0,.int .i64 0,.int .i64 0,.int .i64 0,.int .i64 0] Qc false)).set H3.next (.cells b.cells Qc false):=⟨_,rfl⟩
   have hw4:H4.Wf:=by rw[hH4];exact(hw3.push _).set (by rw[Qa.get_push,if_pos rfl]) _
   have hx4:Ext H3 H4:=by rw[hH4];exact((Ext.refl H3).push _).set (Nat.le_refl _) _
   have gB:H4.get H3.next=some (.cells b.cells Qc false):=by rw[hH4,Qa.get_set,if_pos rfl]
   have lR:=hw3.lt gR3
   have lD:=hw3.lt gD3
   have lV:=hw3.lt gV3
   have lC:=hw3.lt gC3
   have gR4:=(hx4.get _ lR).trans gR3
   have gD4:=(hx4.get _ lD).trans gD3
   have gV4:=(hx4.get _ lV).trans gV3
   have gC4:=(hx4.get _ lC).trans gC3
   have hx04:=hx3.trans hx4
   have b0:b.cells[0]? = some (.int .i64 b.k):=rfl
   have b10:b.cells[10]? = some (.int .i64 b.n):=rfl
   simp only[← hH4,sxA,sxB,Nat.reduceBEq,Nat.reduceEqDiff,reduceCtorEq,mxA,mxB,Nat.reduceAdd,reduceIte,Nat.reduceLeDiff,splice]
   cases q1:be==0 with
   | false=>
    have hx5:Ext H (H4.set (H.next+1) (.cells [.int .i64 0,.slice none 0 0] Qb false)):=hx04.set (by omega) _
    simp only[sxA,sxB,Nat.reduceBEq,Nat.reduceEqDiff,reduceCtorEq,mxA,mxB,Nat.reduceAdd,reduceIte,Nat.reduceLeDiff,splice,a2,gR4,Gg]
    refine .mk hx5.next (QkV hx5 (hie _ _ hcan ?_ |>.trans ?_))
    all_goals (rw[had,hca2,q1];simp[q1])
   | true=>
    simp only[QcR,sxA,sxB,Nat.reduceBEq,Nat.reduceEqDiff,reduceCtorEq,mxA,mxB,Nat.reduceAdd,reduceIte,Nat.reduceLeDiff,splice,gB,b0]
    have hs:=fun b2:Ar=>Qjl dn a b2 (l.drop (i+1))
    simp only[splice,hdn,We]at hs
    have fin:∀ (b2:Ar) (H5:Qa) (A3:Env),Jp (ib1,ib2) a=(b2,0)→Ext H H5→H5.Wf→H5.get (H.next+1)=some (.cells [.int .i64 0,.slice none 0 0] Qb false)→H5.get D=some (.cells [.int .i64 op,.slice ca l.length cap] QN false)→H5.get V=some (.cells vs eV false)→H5.get cb=some (.cells (Qh (dn++a::l.drop (i+1))) Qc false)→
      A3 2=.pointer (some ⟨H.next+1,0,none⟩)→A3 5=.int .i64 ib1→A3 6=.bool ib2→A3 7=.pointer (some ⟨D,0,none⟩)→A3 58=.slice (some ⟨V,0,none⟩) l.length l.length→A3 59=.int .i64 (l.length:Int)→A3 60=.int .i64 ((i+1:Nat):Int)→
      Qp4 (fun m' A2 H2=>∃ (i:Nat) (dn:List Ar),i≤l.length∧m'=l.length - i∧dn.length=i∧Wv (ib1,ib2) l=(dn++(Wv (ib1,ib2) (l.drop i)).1,(Wv (ib1,ib2) (l.drop i)).2)∧Ext H H2∧H2.Wf∧
  A2 2=.pointer (some ⟨H.next+1,0,none⟩)∧A2 5=.int .i64 ib1∧A2 6=.bool ib2∧A2 7=.pointer (some ⟨D,0,none⟩)∧A2 58=.slice (some ⟨V,0,none⟩) l.length l.length∧A2 59=.int .i64 (l.length:Int)∧A2 60=.int .i64 i∧
  H2.get (H.next+1)=some (.cells [.int .i64 0,.slice none 0 0] Qb false)∧H2.get D=some (.cells [.int .i64 op,.slice ca l.length cap] QN false)∧H2.get V=some (.cells vs eV false)∧(0<l.length→H2.get cb=some (.cells (Qh (dn++l.drop i)) Qc false))) (l.length - i) A3 (H5.set cb (.cells (Qh (dn++b2::l.drop (i+1))) Qc false)):=by
     intro b2 H5 A3 hb2 hx5 hw5 gR5 gD5 gV5 gC5 p2 p5 p6 p7 p58 p59 p60
     refine⟨l.length - (i+1),by omega,i+1,dn++[b2],by omega,rfl,by simp[hdn],?_,hx5.set (by omega) _,hw5.set gC5 _,p2,p5,p6,p7,p58,p59,p60,?_,?_,?_,fun _=>?_⟩
     ·rw[hcan,had,hb2]
      simp
     ·rw[Qa.get_set,if_neg (by omega)];exact gR5
     ·rw[Qa.get_set,if_neg (by omega)];exact gD5
     ·rw[Qa.get_set,if_neg (by omega)];exact gV5
     ·rw[Qa.get_set,if_pos rfl,List.append_assoc];rfl
    cases q2:b.k==3 with
    | false=>
     have hnew:Jp (ib1,ib2) a=(b,0):=by rw[hca2,q1,q2];rfl
     simp only[sxA,sxB,Nat.reduceBEq,Nat.reduceEqDiff,reduceCtorEq,mxA,mxB,Nat.reduceAdd,reduceIte,Nat.reduceLeDiff,splice,gB,gC4,hlen,c4,We,QaK,Qcu,hs,a60,ei]
     refine fin b H4 _ hnew hx04 hw4 gR4 gD4 gV4 gC4 ?_ ?_ ?_ ?_ ?_ ?_ ?_
     all_goals simp only[uxA,uxB,Nat.reduceBEq,a2,a5,a6,a7,a58,a59]
    | true=>
     have hca3:Jp (ib1,ib2) a=({b with n:=(Yw b.n ib1 ib2).1},(Yw b.n ib1 ib2).2):=by rw[hca2,q1,q2];rfl
     simp only[QcQ,sxA,sxB,Nat.reduceBEq,Nat.reduceEqDiff,reduceCtorEq,mxA,mxB,Nat.reduceAdd,reduceIte,Nat.reduceLeDiff,splice,gB,b10,a5,a6]
     refine(QeK b.n ib1 ib2 hn' H4).thenW ?_
     rintro _ H4 _ hw4 ⟨rfl,rfl⟩
     generalize Yw b.n ib1 ib2=im at hca3
     obtain⟨im1,im2⟩:=im
     simp only at hca3
     have hsp:=QqC b im1
     simp only[splice,Nat.reduceAdd,List.length_cons,List.length_nil]at hsp
     have gB5:∀bl,(H4.set H3.next bl).get H3.next=some bl:=fun bl=>by rw[Qa.get_set,if_pos rfl]
     have wB5:∀bl,(H4.set H3.next bl).Wf:=fun bl=>hw4.set gB bl
     have xB5:∀bl,Ext H (H4.set H3.next bl):=fun bl=>hx04.set (by have:=hx3.next;omega) bl
     have oB5:∀bl id,¬id=H3.next→(H4.set H3.next bl).get id=H4.get id:=fun bl id h=>by rw[Qa.get_set,if_neg h]
     have tl:(b.cells.take 10++(Value.int .i64 im1::b.cells.drop 11))=({b with n:=im1}:Ar).cells:=by simp[Ar.cells]
     have nR:¬H.next+1=H3.next:=by omega
     have nD:¬D=H3.next:=by omega
     have nV:¬V=H3.next:=by omega
     have nC:¬cb=H3.next:=by omega
     simp only[sxA,sxB,Nat.reduceBEq,Nat.reduceEqDiff,reduceCtorEq,mxA,mxB,Nat.reduceAdd,reduceIte,Nat.reduceLeDiff,splice,gB,We,QaK,Qcu,tl]
     cases q3:im2==0 with
     | false=>
      have hx5:∀bl,Ext H ((H4.set H3.next bl).set (H.next+1) (.cells [.int .i64 0,.slice none 0 0] Qb false)):=fun bl=>(xB5 bl).set (by omega) _
      simp only[sxA,sxB,Nat.reduceBEq,Nat.reduceEqDiff,reduceCtorEq,mxA,mxB,Nat.reduceAdd,reduceIte,Nat.reduceLeDiff,splice,a2,nR,gR4,Gg]
      refine .mk (hx5 _).next (QkV (hx5 _) (hie _ _ hcan ?_ |>.trans ?_))
      all_goals (rw[had,hca3];simp[q3])
     | true=>
      have hnew:Jp (ib1,ib2) a=({b with n:=im1},0):=by rw[hca3];simp at q3;rw[q3]
      simp only[sxA,sxB,Nat.reduceBEq,Nat.reduceEqDiff,reduceCtorEq,mxA,mxB,Nat.reduceAdd,reduceIte,Nat.reduceLeDiff,splice,nC,gB,gC4,hlen,c4,We,QaK,Qcu,hs,a60,ei]
      refine fin {b with n:=im1} (H4.set H3.next _) _ hnew (xB5 _) (wB5 _) ((oB5 _ _ nR).trans gR4) ((oB5 _ _ nD).trans gD4) ((oB5 _ _ nV).trans gV4) ((oB5 _ _ nC).trans gC4) ?_ ?_ ?_ ?_ ?_ ?_ ?_
      all_goals simp only[uxA,uxB,Nat.reduceBEq,a2,a5,a6,a7,a58,a59]
  ·have h2:i=l.length:=by have:=of_decide_eq_false h2;omega
   subst h2
   simp only[sxA,sxB,Nat.reduceBEq,Nat.reduceEqDiff,reduceCtorEq,mxA,mxB,Nat.reduceAdd,reduceIte,Nat.reduceLeDiff,splice]
   rw[← hT,e7,X9,QgW]
   rw[List.drop_length,QlW,List.append_nil]at hcan
   refine Qo3 op l H e k _ H2 D _ dn hx2 hw2 hD (by simp only[uxA,uxB,Nat.reduceBEq,a2]) (by simp only[uxA,uxB,Nat.reduceBEq,a7]) gR gD ⟨ca,cap,by rw[hdn],fun h=>?_⟩ (by omega) (fun a n c h=>by cases h;exact hca _ rfl) (fun x y h=>?_) (hic _ hcan)
   ·have h0:0<l.length:=by omega
    obtain⟨hca1,_⟩:=hcb h0
    have:=gC h0
    rw[List.drop_length,List.append_nil]at this
    exact⟨cb,_,_,hca1,this⟩
   ·have h0:0<l.length:=by rw[← hdn,h];simp
    obtain⟨hca1,_⟩:=hcb h0
    have:=gC h0
    rw[List.drop_length,List.append_nil]at this
    exact⟨cb,cap,by rw[hca1,← hdn,h];rfl,this⟩
theorem Qo4 (z:Array Value) (m:Nat):(Ye z m).length=m:=by simp[Ye]
theorem QkX (v:Value) (hv:QY H v l) (hl:l.length≤1000) (hI:∀a∈l,I64 a.n):Qf prog Qb2 [.agg #[.int .i64 op,v]] H (Qeh op l H):=by
 refine Qjc fun hw=>?_
 obtain⟨a0,c0,rfl,_⟩:=id hv
 have hx0:Ext H ((H.push (.cells [.int .i64 op,.slice a0 l.length c0] Qb false)).push (.cells [.int .i64 0,.slice none 0 0] Qb false)):=((Ext.refl H).push _).push _
 have ne1:¬H.next=H.next+1:=by omega
 have gI:((H.push (.cells [.int .i64 op,.slice a0 l.length c0] Qb false)).push (.cells [.int .i64 0,.slice none 0 0] Qb false)).get H.next=some (.cells [.int .i64 op,.slice a0 l.length c0] Qb false):=by rw[Qa.get_push,Qa.next_push,if_neg ne1,Qa.get_push,if_pos rfl]
 have gR:((H.push (.cells [.int .i64 op,.slice a0 l.length c0] Qb false)).push (.cells [.int .i64 0,.slice none 0 0] Qb false)).get (H.next+1)=some (.cells [.int .i64 0,.slice none 0 0] Qb false):=by rw[Qa.get_push,Qa.next_push,if_pos rfl]
 have hw0:=(hw.push (.cells [.int .i64 op,.slice a0 l.length c0] Qb false)).push (.cells [.int .i64 0,.slice none 0 0] Qb false)
 have hn0:((H.push (.cells [.int .i64 op,.slice a0 l.length c0] Qb false)).push (.cells [.int .i64 0,.slice none 0 0] Qb false)).next=H.next+2:=by simp only[Qa.next_push]
 simp only[QeE,sxA,sxB,Nat.reduceBEq,Nat.reduceEqDiff,reduceCtorEq,mxA,mxB,Nat.reduceAdd,reduceIte,Nat.reduceLeDiff,splice]
 refine Qly (fun _ _ _=>False) 0 ?_ (fun _ _ _ h=>h.elim)
 generalize (H.push (.cells [.int .i64 op,.slice a0 l.length c0] Qb false)).push (.cells [.int .i64 0,.slice none 0 0] Qb false)=H0 at *
 generalize jmK 0 _ 0 _=e
 simp only[QbA,sxA,sxB,Nat.reduceBEq,Nat.reduceEqDiff,reduceCtorEq,mxA,mxB,Nat.reduceAdd,reduceIte,Nat.reduceLeDiff,splice,gI]
 refine(QkS op _ l H0 (hv.ext hw hx0) hl hI).thenW ?_
 rintro _ _ hn1 hw1 ⟨rfl,k1,rfl⟩
 simp only[Qa.next_up]at hn1
 have hx1:=hx0.up hn1
 have gI1:(H0.up k1).get H.next=some (.cells [.int .i64 op,.slice a0 l.length c0] Qb false):=by rw[Qa.get_up];exact gI
 have gR1:(H0.up k1).get (H.next+1)=some (.cells [.int .i64 0,.slice none 0 0] Qb false):=by rw[Qa.get_up];exact gR
 have hm1:H.next+2≤(H0.up k1).next:=by simp only[Qa.next_up];omega
 generalize H0.up k1=H1 at *
 simp only[sxA,sxB,Nat.reduceBEq,Nat.reduceEqDiff,reduceCtorEq,mxA,mxB,Nat.reduceAdd,reduceIte,Nat.reduceLeDiff,splice]
 cases hck:WG op l==0 with
 | false=>
  have hx2:Ext H (H1.set (H.next+1) (.cells [.int .i64 0,.slice none 0 0] Qb false)):=hx1.set (by omega) _
  simp only[sxA,sxB,Nat.reduceBEq,Nat.reduceEqDiff,reduceCtorEq,mxA,mxB,Nat.reduceAdd,reduceIte,Nat.reduceLeDiff,splice,gR1,Gg]
  exact .mk hx2.next (QkV hx2 (by unfold Wy;rw[if_pos hck]))
 | true=>
  have hl4:=Qfg hck
  simp only[Qbz,sxA,sxB,Nat.reduceBEq,Nat.reduceEqDiff,reduceCtorEq,mxA,mxB,Nat.reduceAdd,reduceIte,Nat.reduceLeDiff,splice,gI1]
  refine(Qhd op _ l H1 (hv.ext hw hx1) hl).thenW ?_
  rintro _ _ hn2 hw2 ⟨rfl,k2,rfl⟩
  simp only[Qa.next_up]at hn2
  have hx2:=hx1.up hn2
  have gI2:(H1.up k2).get H.next=some (.cells [.int .i64 op,.slice a0 l.length c0] Qb false):=by rw[Qa.get_up];exact gI1
  have gR2:(H1.up k2).get (H.next+1)=some (.cells [.int .i64 0,.slice none 0 0] Qb false):=by rw[Qa.get_up];exact gR1
  have hm2:H.next+2≤(H1.up k2).next:=by simp only[Qa.next_up];omega
  generalize H1.up k2=H2 at *
  simp only[sxA,sxB,Nat.reduceBEq,Nat.reduceEqDiff,reduceCtorEq,mxA,mxB,Nat.reduceAdd,reduceIte,Nat.reduceLeDiff,splice,gI2]
  refine⟨rfl,(QrU _ l H2 (hv.ext hw hx2) hl).thenW ?_⟩
  rintro u H3 hn3 hw3 ⟨hx3,hcl⟩
  -- what the clone is
  obtain⟨ca,cap,cb,rfl,hcb⟩:∃ca cap cb,u=.slice ca l.length cap∧((0<l.length→ca=some ⟨cb,0,none⟩∧H2.next≤cb∧H3.get cb=some (.cells (Qh l) Qc false))∧(∀a,ca=some a→H2.next≤a.block∧a.block<H3.next)):=by
   rcases hcl with⟨rfl,rfl | ⟨rfl,rfl⟩⟩ | ⟨hne,rfl,rfl⟩
   ·exact⟨none,0,0,rfl,fun h=>absurd h (Nat.lt_irrefl 0),fun a h=>by cases h⟩
   ·exact⟨_,0,0,rfl,fun h=>absurd h (Nat.lt_irrefl 0),fun a h=>by cases h;simp only[Qa.next_push];omega⟩
   ·refine⟨_,_,H2.next+1,rfl,fun _=>⟨rfl,by omega,by rw[Qa.get_push,if_pos (by simp only[Qa.next_push])]⟩,fun a h=>by cases h;simp only[Qa.next_push];omega⟩
  obtain⟨hcb,hca⟩:=hcb
  have gR3:=(hx3.get _ (hw2.lt gR2)).trans gR2
  have hx03:=hx2.trans hx3
  have hxn3:=hx3.next
  have hbl:Qn H2.next 6 (.int .i64 op)=true:=rfl
  simp only[sxA,sxB,Nat.reduceBEq,Nat.reduceEqDiff,reduceCtorEq,mxA,mxB,Nat.reduceAdd,reduceIte,Nat.reduceLeDiff,splice]
  refine⟨hx3.eqB,?_⟩
  refine⟨⟨by omega,by omega,by omega,by omega⟩,?_⟩
  generalize hT:Qj prog Jf ⟨Rt prog Qco H (Qeh op l H),e⟩ (Rt prog Qco H (Qeh op l H))=T
  generalize hzs:Ye _ _=zs
  have hzl:zs.length=l.length:=by rw[← hzs,Qo4];omega
  have hnat:((l.length:Int)).toNat=l.length:=by omega
  simp only[hnat]
  generalize hH4:(H3.push (.cells [.int .i64 op,.slice ca l.length cap] QN false)).push (.cells zs _ false)=H4
  have ne3:¬H3.next=H3.next+1:=by omega
  have hx4:Ext H3 H4:=by rw[← hH4];exact((Ext.refl H3).push _).push _
  have hw4:H4.Wf:=by rw[← hH4];exact(hw3.push _).push _
  have gD4:H4.get H3.next=some (.cells [.int .i64 op,.slice ca l.length cap] QN false):=by rw[← hH4,Qa.get_push,Qa.next_push,if_neg ne3,Qa.get_push,if_pos rfl]
  obtain⟨eV,gV4⟩:∃eV,H4.get (H3.next+1)=some (.cells zs eV false):=⟨_,by rw[← hH4,Qa.get_push,Qa.next_push,if_pos rfl]⟩
  have gR4:=(hx4.get _ (hw3.lt gR3)).trans gR3
  have gC4:0<l.length→H4.get cb=some (.cells (Qh l) Qc false):=fun h=>(hx4.get _ (hw3.lt (hcb h).2.2)).trans (hcb h).2.2
  have hcb3:0<l.length→cb<H3.next:=fun h=>hw3.lt (hcb h).2.2
  have hx04:=hx03.trans hx4
  clear hH4 hzs
  refine Wq (fun m' A2 H5=>∃ (i:Nat) (cs:List Value),i≤l.length∧m'=l.length - i∧cs.length=l.length∧(∀j,j<i→cs[j]? = some (.pointer (some ⟨cb,j * 11,none⟩)))∧Ext H H5∧H5.Wf∧
   A2 2=.pointer (some ⟨H.next+1,0,none⟩)∧A2 5=.int .i64 (Wn op l).1∧A2 6=.bool (Wn op l).2∧A2 7=.pointer (some ⟨H3.next,0,none⟩)∧A2 8=.slice (some ⟨H3.next+1,0,none⟩) l.length l.length∧A2 44=.int .i64 (l.length:Int)∧A2 45=.int .i64 i∧
   H5.get (H.next+1)=some (.cells [.int .i64 0,.slice none 0 0] Qb false)∧H5.get H3.next=some (.cells [.int .i64 op,.slice ca l.length cap] QN false)∧H5.get (H3.next+1)=some (.cells cs eV false)∧(0<l.length→H5.get cb=some (.cells (Qh l) Qc false))) l.length ?_ ?_
  ·refine⟨0,zs,Nat.zero_le _,by omega,hzl,fun j h=>by omega,hx04,hw4,?_,?_,?_,?_,?_,?_,?_,gR4,gD4,gV4,gC4⟩
   all_goals simp only[uxA,uxB,Nat.reduceBEq]
   all_goals rfl
  ·rintro m' A2 H5 ⟨i,cs,hi,rfl,hcsl,hcs,hx5,hw5,a2,a5,a6,a7,a8,a44,a45,gR5,gD5,gV5,gC5⟩
   simp only[Qby,sxA,sxB,Nat.reduceBEq,Nat.reduceEqDiff,reduceCtorEq,mxA,mxB,Nat.reduceAdd,reduceIte,Nat.reduceLeDiff,splice,a44,a45]
   refine Qe (fun h2=>?_) (fun h2=>?_)
   ·have h2:i<l.length:=by have:=of_decide_eq_true h2;omega
    obtain⟨hc1,hc2,hc3⟩:=hcb (by omega)
    have hc4:=hcb3 (by omega)
    have c1:(0:Int)≤i∧(i:Int)<l.length:=by omega
    have c3:(i:Int).toNat=i:=by omega
    have c4:i+1≤l.length:=h2
    have ei:IntKind.i64.wrap ((i:Int)+1)=((i+1:Nat):Int):=by rw[w64 (by unfold I64;omega)];omega
    subst hc1
    have hpt:(Value.pointer (some ⟨cb,i * 11,none⟩)).cells.toList=[.pointer (some ⟨cb,i * 11,none⟩)]:=rfl
    have hpo:(Value.pointer (some ⟨cb,i * 11,none⟩)).oneCell'=true:=rfl
    have hsl:=Qnb cs i [.pointer (some ⟨cb,i * 11,none⟩)] (by simp;omega)
    have hsa:=Qo2 cs i (.pointer (some ⟨cb,i * 11,none⟩)) (by omega)
    have hsb:=fun j (hj:j<i)=>Qjk cs i [.pointer (some ⟨cb,i * 11,none⟩)] (by omega) j hj
    simp only[splice,List.length_cons,List.length_nil,Nat.zero_add,List.cons_append,List.nil_append]at hsl hsa hsb
    simp only[Qbx,sxA,sxB,Nat.reduceBEq,Nat.reduceEqDiff,reduceCtorEq,mxA,mxB,Nat.reduceAdd,reduceIte,Nat.reduceLeDiff,splice,a7,a8,a45,c1,c3,c4,gD5,gV5,hcsl,hpt,hpo,ei]
    refine⟨l.length - (i+1),by omega,i+1,_,by omega,rfl,hsl.trans hcsl,fun j hj=>?_,hx5.set (by omega) _,hw5.set gV5 _,?_,?_,?_,?_,?_,?_,?_,?_,?_,by rw[Qa.get_set,if_pos rfl],fun h=>?_⟩
    ·rcases Nat.lt_or_ge j i with h | h
     ·rw[hsb j h];exact hcs j h
     ·rw[show j=i by omega];exact hsa
    all_goals (try simp only[uxA,uxB,Nat.reduceBEq,a2,a5,a6,a7,a8,a44])
    ·rw[Qa.get_set,if_neg (by omega)];exact gR5
    ·rw[Qa.get_set,if_neg (by omega)];exact gD5
    ·rw[Qa.get_set,if_neg (by omega)];exact gC5 h
   ·have h2:i=l.length:=by have:=of_decide_eq_false h2;omega
    subst h2
    simp only[sxA,sxB,Nat.reduceBEq,Nat.reduceEqDiff,reduceCtorEq,mxA,mxB,Nat.reduceAdd,reduceIte,Nat.reduceLeDiff,splice]
    rw[← hT]
    refine QqD op l H e _ _ H5 H3.next (H3.next+1) cb cap ca cs eV hx5 hw5 (by omega) (by omega) (by omega) (by simp only[uxA,uxB,Nat.reduceBEq,a2]) (by simp only[uxA,uxB,Nat.reduceBEq,a5]) (by simp only[uxA,uxB,Nat.reduceBEq,a6]) (by simp only[uxA,uxB,Nat.reduceBEq,a7]) (by simp only[uxA,uxB,Nat.reduceBEq,a8]) gR5 gD5 gV5 hcsl hcs (fun h=>?_) (fun a h=>?_) hck hI
    ·obtain⟨hc1,hc2,hc3⟩:=hcb h
     have hc4:=hcb3 h
     exact⟨hc1,by omega,by omega,by omega,gC5 h⟩
    ·have:=hca a h
     exact⟨by omega,by omega⟩
end
end Go.Proofs.YtdjkkoacinpdeaaGreatDoor.code
