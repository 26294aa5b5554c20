/- strings.Builder, in a print.text. -/
import Derived.Test.YtdjkkoacinpdeaaGreatDoorLibO
import Derived.Test.YtdjkkoacinpdeaaGreatDoorE4Reg
import Derived.Test.YtdjkkoacinpdeaaGreatDoorLibI
import Derived.Test.YtdjkkoacinpdeaaGreatDoorLibJ
set_option linter.unusedVariables false
set_option linter.unusedSimpArgs false
set_option maxRecDepth 100000
set_option maxHeartbeats 4000000
namespace Go.Proofs.YtdjkkoacinpdeaaGreatDoor.code
open Go.Ab
structure BAt (H0 H:Qa) (D:Nat) (l:List UInt8) (p v:Value):Prop where
 get:H.get D=some (.cells [p,v] Xm false)
 ptr:p=.pointer none∨p=.pointer (some ⟨D,0,none⟩)
 gs:Gs 1 5 H0 H v l.length (u8v l)
 low:H0.next≤D
 apart:¬JF v D
 wf:H.Wf
 ext:Ext H0 H
theorem QlL {H0 H:Qa} {D:Nat} {l:List UInt8} {p v:Value} (hb:BAt H0 H D l p v):Qf prog XH [.pointer (some ⟨D,0,none⟩)] H fun u H'=>u=.tuple #[]∧BAt H0 H' D l (.pointer (some ⟨D,0,none⟩)) v∧H'.next=H.next∧∀id,id≠D→H'.get id=H.get id:=by
 refine VD fun hw=>?_
 obtain⟨hg,hp,hgs,hlow,hap,hwf,hx⟩:=hb
 simp only[Zx,sxA,sxB,Nat.reduceBEq,Nat.reduceEqDiff,reduceCtorEq,mxA,mxB,Nat.reduceAdd,reduceIte,Nat.reduceLeDiff,splice,ZV,hg]
 rcases hp with rfl | rfl
 ·rw[QjR (a:=none) (by kernel_rfl) (by simp only[uxA,uxB,Nat.reduceBEq])]
  simp only[sxA,sxB,Nat.reduceBEq,Nat.reduceEqDiff,reduceCtorEq,mxA,mxB,Nat.reduceAdd,reduceIte,Nat.reduceLeDiff,splice,Option.isNone_none]
  rw[Qqa (b:=D) (o:=0) (by kernel_rfl) (by simp only[uxA,uxB,Nat.reduceBEq]) hg (by simp)]
  simp only[sxA,sxB,Nat.reduceBEq,Nat.reduceEqDiff,reduceCtorEq,mxA,mxB,Nat.reduceAdd,reduceIte,Nat.reduceLeDiff,splice]
  refine QjS QfP (args:=[.pointer (some ⟨D,0,none⟩)]) (v:=.pointer (some ⟨D,0,none⟩)) rfl ?_
  simp only[sxA,sxB,Nat.reduceBEq,Nat.reduceEqDiff,reduceCtorEq,mxA,mxB,Nat.reduceAdd,reduceIte,Nat.reduceLeDiff,splice]
  rw[QmY (b:=D) (o:=0) (by kernel_rfl) (by simp only[uxA,uxB,Nat.reduceBEq]) hg]
  simp only[sxA,sxB,Nat.reduceBEq,Nat.reduceEqDiff,reduceCtorEq,mxA,mxB,Nat.reduceAdd,reduceIte,Nat.reduceLeDiff,splice,ZV,hg,Qiv,Qg2,Za]
  refine .mk (by rw[Qa.next_set];exact Nat.le_refl _) ⟨rfl,⟨by rw[Qa.get_set,if_pos rfl],.inr rfl,hgs.ext fun id hid=>?_,hlow,hap,hwf.set hg _,hx.set hlow _⟩,by rw[Qa.next_set],fun id hid=>by rw[Qa.get_set,if_neg hid]⟩
  have:id≠D:=fun h=>hap (by rw[← h];exact hid)
  rw[Qa.get_set,if_neg this]
 ·rw[QjR (a:=some ⟨D,0,none⟩) (by kernel_rfl) (by simp only[uxA,uxB,Nat.reduceBEq])]
  simp only[sxA,sxB,Nat.reduceBEq,Nat.reduceEqDiff,reduceCtorEq,mxA,mxB,Nat.reduceAdd,reduceIte,Nat.reduceLeDiff,splice,Option.isNone_some,ZV,hg]
  rw[QoM (b:=D) (o:=0) (by kernel_rfl) (by simp only[uxA,uxB,Nat.reduceBEq]) (by simp only[uxA,uxB,Nat.reduceBEq])]
  simp only[sxA,sxB,Nat.reduceBEq,Nat.reduceEqDiff,reduceCtorEq,mxA,mxB,Nat.reduceAdd,reduceIte,Nat.reduceLeDiff,splice,Za]
  exact .mk (Nat.le_refl _) ⟨rfl,⟨hg,.inr rfl,hgs,hlow,hap,hwf,hx⟩,rfl,fun _ _=>rfl⟩
structure KA (D:Nat) (v v':Value) (H H':Qa):Prop where
 next:H.next≤H'.next
 keep:∀id,id<H.next→id≠D→¬JF v id→H'.get id=H.get id
 new:∀id,JF v' id→JF v id∨H.next≤id
theorem KA.refl (D:Nat) (v:Value) (H:Qa):KA D v v H H:=⟨Nat.le_refl _,fun _ _ _ _=>rfl,fun _ h=>.inl h⟩
theorem KA.trans {D:Nat} {v v' v'':Value} {H H' H'':Qa} (h:KA D v v' H H') (h':KA D v' v'' H' H''):KA D v v'' H H'':=by
 have n1:=h.next
 have n2:=h'.next
 refine⟨by omega,fun id h1 h2 h3=>?_,fun id hi=>?_⟩
 ·rw[h'.keep id (by omega) h2 (fun hi=>?_)]
  ·exact h.keep id h1 h2 h3
  ·rcases h.new id hi with h4 | h4
   ·exact h3 h4
   ·omega
 ·rcases h'.new id hi with h4 | h4
  ·exact h.new id h4
  ·exact .inr (by omega)
theorem KA.pre {D:Nat} {v v':Value} {H H1 H':Qa} (hx:Ext H H1) (h:KA D v v' H1 H'):KA D v v' H H':=by
 have n0:=hx.next
 have n1:=h.next
 exact⟨by omega,fun id h1 h2 h3=>by rw[h.keep id (by omega) h2 h3];exact hx.get id h1,fun id hi=>by rcases h.new id hi with h4 | h4;exact .inl h4;exact .inr (by omega)⟩
theorem KA.post {D:Nat} {v v':Value} {H H1 H':Qa} (h:KA D v v' H H1) (hx:Ext H1 H'):KA D v v' H H':=by
 have n0:=hx.next
 have n1:=h.next
 exact⟨by omega,fun id h1 h2 h3=>by rw[hx.get id (by omega)];exact h.keep id h1 h2 h3,h.new⟩
theorem BAt.go {H0 H H':Qa} {D:Nat} {l:List UInt8} {p v:Value} (h:BAt H0 H D l p v) (hx:Ext H H') (hw:H'.Wf):BAt H0 H' D l p v:=by
 have hn:=hx.next
 have hn0:=h.ext.next
 refine⟨by rw[hx.get _ (h.wf.lt h.get)];exact h.get,h.ptr,h.gs.ext fun id hid=>hx.get id (h.gs.low h.wf hid).2,h.low,h.apart,hw,⟨by omega,fun id hid=>by rw[hx.get id (by omega)];exact h.ext.get id hid⟩⟩
def Qg6 (H0 H:Qa) (D:Nat) (l:List UInt8) (v:Value) (H':Qa):Prop:=∃p' v',BAt H0 H' D l p' v'∧KA D v v' H H'
theorem QrP {H0 H:Qa} {D:Nat} {l m:List UInt8} {v x:Value} {k:Value→Qa→Prop} (hb:BAt H0 H D l (.pointer (some ⟨D,0,none⟩)) v) (hsrc:QaN 1 x H=some (m.length,u8v m)) (hl:l.length+m.length≤140737488355328)
  (h:∀v' H',H'.get D=some (.cells [.pointer (some ⟨D,0,none⟩),v] Xm false)→BAt H0 (H'.set D (.cells [.pointer (some ⟨D,0,none⟩),v'] Xm false)) D (l++m) (.pointer (some ⟨D,0,none⟩)) v'→(∃b n c,v'=.slice b n c)→H.next≤H'.next→KA D v v' H (H'.set D (.cells [.pointer (some ⟨D,0,none⟩),v'] Xm false))→k v' H'):Qhk 5 1 1 v x H k:=by
 have hb0:=hb
 obtain⟨hg,hp,hgs,hlow,hap,hwf,hx⟩:=hb
 have hD:=hwf.lt hg
 by_cases hm:1≤m.length
 ·refine Qqm hgs hx hwf hsrc (QrN m) hm (by rw[QfR];omega) (by omega) (by omega) ?_
  intro v' H' hgs' hx' hw' hk hn hnew
  have hgD:H'.get D=some (.cells [.pointer (some ⟨D,0,none⟩),v] Xm false):=by rw[hk D hD hap];exact hg
  have hapD:¬JF v' D:=fun hi=>by have:=hnew D hi;omega
  refine h v' H' hgD ⟨by rw[Qa.get_set,if_pos rfl],.inr rfl,?_,hlow,hapD,hw'.set hgD _,hx'.set hlow _⟩ ?_ (by omega) ⟨by rw[Qa.next_set];omega,fun id h1 h2 h3=>by rw[Qa.get_set,if_neg h2];exact hk id h1 h3,fun id hi=>.inr (by have:=hnew id hi;omega)⟩
  ·have e1:u8v (l++m)=u8v l++u8v m:=by simp[u8v]
   rw[e1,List.length_append]
   refine hgs'.ext fun id hid=>?_
   have:id≠D:=fun h=>hapD (by rw[← h];exact hid)
   rw[Qa.get_set,if_neg this]
  ·rcases hgs' with⟨_,h0,_⟩ | ⟨b,hb,_⟩
   ·omega
   ·exact⟨_,_,_,hb⟩
 ·have hm0:m=[]:=List.length_eq_zero_iff.1 (by omega)
  subst hm0
  have hsl:∃b n c,v=.slice b n c:=by
   rcases hgs with⟨rfl,_⟩ | ⟨b,hb,_⟩
   ·exact⟨_,_,_,rfl⟩
   ·exact⟨_,_,_,hb⟩
  have hap0:Ze 5 1 1 v x H=some (v,H):=by
   unfold Ze
   rw[hsrc]
   rcases hgs with⟨rfl,_⟩ | ⟨b,hb,_⟩
   ·rfl
   ·subst hb
    simp only[u8v,List.map_nil,List.all_nil,if_true,List.length_nil]
    rw[if_pos (.inl (Nat.le_add_right _ _))]
  unfold Qhk
  rw[hap0,Qx]
  have hset:(H.set D (.cells [.pointer (some ⟨D,0,none⟩),v] Xm false)).get=H.get:=by
   funext id
   rw[Qa.get_set]
   split
   ·rename_i e;rw[e];exact hg.symm
   ·rfl
  refine h v H hg ?_ hsl (Nat.le_refl _) ⟨by rw[Qa.next_set];omega,fun id h1 h2 h3=>by rw[Qa.get_set,if_neg h2],fun id hi=>.inl hi⟩
  rw[List.append_nil]
  exact⟨by rw[hset];exact hg,hp,hgs.ext fun id _=>by rw[hset],hlow,hap,hwf.set hg _,hx.set hlow _⟩
theorem Qjb {H0 H:Qa} {D:Nat} {l m:List UInt8} {p v:Value} (hb:BAt H0 H D l p v) (hl:l.length+m.length≤140737488355328):Qf prog Xx [.pointer (some ⟨D,0,none⟩),.string (mkS m)] H fun u H'=>(∃x y,u=.tuple #[x,y])∧Qg6 H0 H D (l++m) v H':=by
 refine G4 fun hw=>?_
 simp only[Y0,sxA,sxB,Nat.reduceBEq,Nat.reduceEqDiff,reduceCtorEq,mxA,mxB,Nat.reduceAdd,reduceIte,Nat.reduceLeDiff,splice]
 refine(QlL hb).thenW ?_
 rintro _ H1 _ hw1 ⟨rfl,hb1,hn1,hkp⟩
 have hg1:=hb1.get
 simp only[sxA,sxB,Nat.reduceBEq,Nat.reduceEqDiff,reduceCtorEq,mxA,mxB,Nat.reduceAdd,reduceIte,Nat.reduceLeDiff,splice,ZV,hg1]
 refine QrP hb1 (m:=m) (by simp[QaN,Yf,Qd4,u8v,mkS,ByteArray.size]) hl ?_
 intro v' H' hgD hb' ⟨b,n,c,hv'⟩ hn' hst
 subst hv'
 have hn2:=hb'.ext.next
 rw[Qa.next_set]at hn2
 simp only[sxA,sxB,Nat.reduceBEq,Nat.reduceEqDiff,reduceCtorEq,mxA,mxB,Nat.reduceAdd,reduceIte,Nat.reduceLeDiff,splice,ZV,hgD,V5,Gm]
 refine .mk (by rw[Qa.next_set];omega) ⟨⟨_,_,rfl⟩,_,_,hb',⟨by rw[Qa.next_set];omega,fun id h1 h2 h3=>?_,fun id hi=>by have:=hst.new id hi;rw[hn1]at this;exact this⟩⟩
 rw[hst.keep id (by omega) h2 h3,hkp id h2]
theorem Qtb (l:List UInt8):(u8v l).all Qpt=true:=by
 rw[List.all_eq_true]
 intro v hv
 obtain⟨b,_,rfl⟩:=List.mem_map.1 hv
 have:=b.toNat_lt
 simp[Qpt]
 omega
theorem QjX {H0 H:Qa} {D:Nat} {l:List UInt8} {p v:Value} (hb:BAt H0 H D l p v) (h1:1≤l.length) (hl:l.length≤140737488355328):Qf prog Xl [.pointer (some ⟨D,0,none⟩)] H fun u H'=>u=.string (mkS l)∧Ext H0 H':=by
 refine Qar fun hw=>?_
 obtain⟨hg,hp,hgs,hlow,hap,hwf,hx⟩:=hb
 simp only[Jh,sxA,sxB,Nat.reduceBEq,Nat.reduceEqDiff,reduceCtorEq,mxA,mxB,Nat.reduceAdd,reduceIte,Nat.reduceLeDiff,splice,ZV,hg]
 have hn:=hx.next
 rcases hgs with⟨rfl,h0,_⟩ | ⟨b,rfl,h2,h3,h4⟩
 ·omega
 ·have e:(l.length:Int)=((u8v l).length:Int):=by rw[QfR]
  rw[QmZ (a:=some ⟨b,0,none⟩) (n:=l.length) (c:=UNK+1) (by simp only[uxA,uxB,Nat.reduceBEq]) (.inr (by omega))]
  simp only[sxA,sxB,Nat.reduceBEq,Nat.reduceEqDiff,reduceCtorEq,mxA,mxB,Nat.reduceAdd,reduceIte,Nat.reduceLeDiff,splice,ZV,hg,Kh]
  rw[QoN (e:=5) (b:=b) (by kernel_rfl) (by simp only[uxA,uxB,Nat.reduceBEq]) (by simp only[uxA,uxB,Nat.reduceBEq];rw[e]) h3 (by rw[QfR];omega) (by rw[QfR];omega) (Qtb l) (QdU l)]
  simp only[sxA,sxB,Nat.reduceBEq,Nat.reduceEqDiff,reduceCtorEq,mxA,mxB,Nat.reduceAdd,reduceIte,Nat.reduceLeDiff,splice,Qad]
  exact .mk (by rw[Qa.next_set];exact Nat.le_refl _) ⟨rfl,hx.set h2 _⟩
theorem QkQ {H0 H:Qa} {D:Nat} {l:List UInt8} {p v:Value} (hb:BAt H0 H D l p v) {id:Nat} (hi:JF v id):id<H.next:=(hb.gs.low hb.wf hi).2
theorem QoT (ws:List (List UInt8)) (i:Nat) (w:List UInt8) (h:ws[i]? = some w):(ws.take (i+1)).flatten=(ws.take i).flatten++w:=by
 have hi:=(List.getElem?_eq_some_iff.1 h).1
 rw[List.take_add_one,h]
 simp
theorem QrR (ws:List (List UInt8)) (i:Nat):((ws.take i).flatten).length≤(ws.flatten).length:=by
 have h:ws.flatten=(ws.take i).flatten++(ws.drop i).flatten:=by rw[← List.flatten_append,List.take_append_drop]
 rw[h,List.length_append];omega
theorem QtV {H0 H:Qa} {D:Nat} {l:List UInt8} {p v:Value} (hb:BAt H0 H D l p v) (ws:List (List UInt8)) {b:Nat} {e:TypeId} {ro:Bool} {cap:Nat} (hg:H.get b=some (.cells (Qja ws) e ro)) (hbD:b≠D) (hbv:¬JF v b) (hl:l.length+ws.flatten.length≤1000000) (hn:ws.length≤1000):
  Qf prog Ql [.pointer (some ⟨D,0,none⟩),.slice (some ⟨b,0,none⟩) ws.length cap] H fun u H'=>u=.pointer (some ⟨D,0,none⟩)∧Qg6 H0 H D (l++ws.flatten) v H':=by
 refine QfL fun hw=>?_
 simp only[QaH,sxA,sxB,Nat.reduceBEq,Nat.reduceEqDiff,reduceCtorEq,Kh]
 refine Wq (fun m A' H'=>∃ (i:Nat) (p' v':Value),i≤ws.length∧m=ws.length - i∧BAt H0 H' D (l++(ws.take i).flatten) p' v'∧KA D v v' H H'∧A' 0=.pointer (some ⟨D,0,none⟩)∧A' 7=.slice (some ⟨b,0,none⟩) ws.length cap∧A' 8=.int .i64 ws.length∧A' 9=.int .i64 i) ws.length ?_ ?_
 ·refine⟨0,p,v,Nat.zero_le _,by omega,by simpa using hb,.refl _ _ _,?_,?_,?_,?_⟩
  all_goals simp only[uxA,uxB,Nat.reduceBEq]
  rfl
 ·rintro m A' H' ⟨i,p',v',hi,rfl,hb',hst,r0,r7,r8,r9⟩
  simp only[VN,sxA,sxB,Nat.reduceBEq,Nat.reduceEqDiff,reduceCtorEq,r8,r9]
  refine Qe (fun h2=>?_) (fun h2=>?_)
  ·have h2:i<ws.length:=by have:=of_decide_eq_true h2;omega
   obtain⟨w,hwi⟩:∃w,ws[i]? = some w:=⟨_,List.getElem?_eq_getElem h2⟩
   have hbl:=hw.lt hg
   have hg':H'.get b=some (.cells (Qja ws) e ro):=by rw[hst.keep b hbl hbD hbv];exact hg
   have hs:=QlK hwi
   have d1:(0:Int)≤i∧(i:Int)<ws.length:=by omega
   have d3:(i:Int).toNat=i:=by omega
   have ei:IntKind.i64.wrap ((i:Int)+1)=((i+1:Nat):Int):=by rw[w64 (by unfold I64;omega)];omega
   have hfl:=QrR ws (i+1)
   have hfd:=QoT ws i w hwi
   simp only[VM,sxA,sxB,Nat.reduceBEq,Nat.reduceEqDiff,reduceCtorEq,mxA,mxB,Nat.reduceAdd,reduceIte,Nat.reduceLeDiff,splice,r0,r7,r8,r9,d1,d3,hg',hs,decide_true,ZV]
   refine(Qjb hb' (m:=w) (by rw[List.length_append];rw[hfd,List.length_append]at hfl;omega)).thenW ?_
   rintro _ H2 hn2 hw2 ⟨⟨x,y,rfl⟩,p2,v2,hb2,hst2⟩
   simp only[sxA,sxB,Nat.reduceBEq,Nat.reduceEqDiff,reduceCtorEq,r9,ei]
   refine⟨ws.length - (i+1),by omega,i+1,p2,v2,by omega,rfl,?_,hst.trans hst2,?_,?_,?_,?_⟩
   ·rw[hfd,← List.append_assoc];exact hb2
   all_goals simp only[uxA,uxB,Nat.reduceBEq,r0,r7,r8]
  ·have h2:i=ws.length:=by have:=of_decide_eq_false h2;omega
   subst h2
   rw[List.take_length]at hb'
   simp only[sxA,sxB,Nat.reduceBEq,Nat.reduceEqDiff,reduceCtorEq,r0,Qe5]
   exact .mk hst.next ⟨rfl,p',v',hb',hst⟩
theorem Kb {H0 H:Qa} {D:Nat} {l:List UInt8} {p v:Value} (hb:BAt H0 H D l p v) (ws:List (List UInt8)) (n:Nat) (hn:n=ws.length) (hl:l.length+ws.flatten.length≤1000000) (hn2:ws.length≤1000):
  Qf prog Ql [.pointer (some ⟨D,0,none⟩),.slice (some ⟨H.next,0,none⟩) n n] (H.push (.cells (Qja ws) 9 false)) fun u H'=>u=.pointer (some ⟨D,0,none⟩)∧Qg6 H0 H D (l++ws.flatten) v H':=by
 subst hn
 have hD:=hb.wf.lt hb.get
 have hx:=(Ext.refl H).push (.cells (Qja ws) 9 false)
 refine(QtV (cap:=ws.length) (hb.go hx (hb.wf.push _)) ws (b:=H.next) (by rw[Qa.get_push,if_pos rfl]) (by omega) (fun hi=>?_) hl hn2).mono ?_
 ·have:=QkQ hb hi;omega
 ·rintro u H' ⟨rfl,p',v',h1,h2⟩
  exact⟨rfl,p',v',h1,h2.pre hx⟩
theorem Qqo {H0 H:Qa} {D:Nat} {l:List UInt8} {p v:Value} (hb:BAt H0 H D l p v) (f:Bool) (a b:List UInt8) (hl:l.length+a.length+b.length≤1000000):
  Qf prog ZN [.pointer (some ⟨D,0,none⟩),.bool f,.string (mkS a),.string (mkS b)] H fun u H'=>u=.pointer (some ⟨D,0,none⟩)∧Qg6 H0 H D (l++(bif f then a else b)) v H':=by
 refine Qe6 fun hw=>?_
 cases f with
 | true=>
  simp only[J7,sxA,sxB,Nat.reduceBEq,Nat.reduceEqDiff,reduceCtorEq,mxA,mxB,Nat.reduceAdd,reduceIte,Nat.reduceLeDiff,splice,syA]
  refine(Kb hb [a] 1 rfl (by simp;omega) (by simp)).thenW ?_
  rintro _ H2 hn2 hw2 ⟨rfl,p2,v2,hb2,hst2⟩
  simp only[sxA,sxB,Nat.reduceBEq,Nat.reduceEqDiff,reduceCtorEq,VO]
  exact .mk hst2.next ⟨rfl,p2,v2,by simpa using hb2,hst2⟩
 | false=>
  simp only[J7,sxA,sxB,Nat.reduceBEq,Nat.reduceEqDiff,reduceCtorEq,mxA,mxB,Nat.reduceAdd,reduceIte,Nat.reduceLeDiff,splice,syA]
  refine(Kb hb [b] 1 rfl (by simp;omega) (by simp)).thenW ?_
  rintro _ H2 hn2 hw2 ⟨rfl,p2,v2,hb2,hst2⟩
  simp only[sxA,sxB,Nat.reduceBEq,Nat.reduceEqDiff,reduceCtorEq,VO]
  exact .mk hst2.next ⟨rfl,p2,v2,by simpa using hb2,hst2⟩
def QaI (n:Int):List UInt8:=if(n==1)=true then[98,121,116,101,32] else if(n==2)=true then[119,111,114,100,32] else if(n==4)=true then[100,119,111,114,100,32] else if(n==8)=true then[113,119,111,114,100,32] else if(n==16)=true then[111,119,111,114,100,32] else if(n==32)=true then[121,119,111,114,100,32] else[]
theorem Qgv (n:Int):(QaI n).length≤6:=by unfold QaI;repeat' (split<;>try decide)
theorem QkR (n:Int) (H:Qa):Qf prog Qb3 [.int .i64 n] H fun u H'=>u=.string (mkS (QaI n))∧H'=H:=by
 refine Qi6 fun hw=>?_
 unfold QaI
 simp only[QeC,QcK,QcL,QcM,QcN,sxA,sxB,Nat.reduceBEq,Nat.reduceEqDiff,reduceCtorEq]
 repeat' (first
  | (refine Qe (fun h=>?_) (fun h=>?_)<;>simp only[sxA,sxB,Nat.reduceBEq,Nat.reduceEqDiff,reduceCtorEq,h,Qir,if_true,if_false,Bool.false_eq_true])
  | fail)
 all_goals exact .mk (Nat.le_refl _) ⟨rfl,rfl⟩
def QfY (n:Nat):List UInt8:=[(48+n).toUInt8]
theorem QrS:((List.range 10).all fun n=>QnW QaR [.int .i64 n] (.string (mkS (QfY n))))=true:=by kernel_rfl
theorem Qte (n:Nat) (hn:n<10) (H:Qa):Qf prog QaR [.int .i64 n] H fun u H'=>u=.string (mkS (QfY n))∧H'=H:=
 Qgr (by kernel_rfl) rfl rfl (List.all_eq_true.1 QrS n (List.mem_range.2 hn)) H
theorem Qqp:((List.range 10).all fun n=>QnW XP [.int .i64 n] (.string (mkS (QfY n))))=true:=by kernel_rfl
theorem QrT (n:Nat) (hn:n<10) (H:Qa):Qf prog XP [.int .i64 n] H fun u H'=>u=.string (mkS (QfY n))∧H'=H:=
 Qgr (by kernel_rfl) rfl rfl (List.all_eq_true.1 Qqp n (List.mem_range.2 hn)) H
theorem Z9 (n:Int) (h:I64 n):(Qas n).length≤20:=by
 have h1:=Qgs 15 n.natAbs (by unfold I64 at h;omega)
 unfold Qas Qg4
 simp only[List.length_append]
 split<;>simp<;>omega
theorem GS (a:List UInt8):[a].flatten=a:=List.append_nil a
theorem Qhc (a b:List UInt8):[a,b].flatten=a++b:=by rw[List.flatten_cons,GS]
theorem QeJ (a b c:List UInt8):[a,b,c].flatten=a++(b++c):=by rw[List.flatten_cons,Qhc]
def Qjh (f:Bool) (m:Mm):List UInt8:=bif f then Qas m.d else bif decide (0<m.d) then[32,43,32]++Qas m.d else bif decide (m.d<0) then[32,45,32]++Qas (-m.d) else[]
def QnX (m:Mm):List UInt8:=bif isR m.b 0 0 then[] else Xi m.b
def QoU (f:Bool) (m:Mm):List UInt8:=bif isR m.i 0 0 then[] else(bif f then[] else[32,43,32])++(Xi m.i++([42]++QfY m.sc.toNat))
def Qap (m:Mm):List UInt8:=
 QaI m.sz++[91]++QnX m++QoU (isR m.b 0 0) m ++
  Qjh (isR m.b 0 0&&isR m.i 0 0) m++[93]
structure MOk (m:Mm):Prop where
 b:isR m.b 0 0=false→WW m.b=true
 i:isR m.i 0 0=false→WW m.i=true∧0≤m.sc∧m.sc<10
 d:-2147483648≤m.d∧m.d≤2147483647
theorem QiF {m:Mm} (h:MOk m):(Qap m).length≤100:=by
 have h1:=Qgv m.sz
 have h2:=Ka m.b
 have h3:=Ka m.i
 have h4:=Z9 m.d (by have:=h.d;unfold I64;omega)
 have h5:=Z9 (-m.d) (by have:=h.d;unfold I64;omega)
 unfold Qap Qjh QnX QoU
 simp only[List.length_append]
 cases isR m.b 0 0<;>cases isR m.i 0 0<;>cases decide (0<m.d)<;>cases decide (m.d<0)<;>simp[QfY]<;>omega
structure QoV (T:Qa→Prop):Prop where
 q:Tq T
 nm:Qsp T
section
variable {T:Qa→Prop} (hT:QoV T) {H0 H:Qa} (hw0:H0.Wf) (hT0:T H0) {D:Nat} {l:List UInt8} {v:Value} {m:Mm}
abbrev KP (H0 H:Qa) (D:Nat) (l:List UInt8) (v:Value):Env→Qa→Prop:=Rt prog Qe4 H fun u H'=>u=.pointer (some ⟨D,0,none⟩)∧Qg6 H0 H D l v H'
structure PlF (H0 H H1:Qa) (D:Nat) (v:Value) (m:Mm) (l:List UInt8) (A:Env) (H':Qa):Prop where
 b:∃p' v',BAt H0 H' D l p' v'∧KA D v v' H1 H'
 r0:A 0=.pointer (some ⟨D,0,none⟩)
 r3:A 3=.pointer (some ⟨H.next,0,none⟩)
theorem PlF.env {H1:Qa} {A B:Env} {H':Qa} (h:PlF H0 H H1 D v m l A H') (e0:B 0=A 0) (e3:B 3=A 3):PlF H0 H H1 D v m l B H':=⟨h.b,e0.trans h.r0,e3.trans h.r3⟩
structure PlE (H0 H H1:Qa) (D:Nat) (v:Value) (m:Mm):Prop where
 w:H0.Wf
 x:Ext H H1
 g:H1.get H.next=some (.cells m.cells Qg false)
 lt:H.next<H1.next
 nD:H.next≠D
 nv:¬JF v H.next
theorem PlE.get {H1:Qa} (h:PlE H0 H H1 D v m) {v':Value} {H':Qa} (hs:KA D v v' H1 H'):H'.get H.next=some (.cells m.cells Qg false):=by
 rw[hs.keep _ h.lt h.nD h.nv];exact h.g
include hT hT0 in
theorem Qqq {H1:Qa} (hE:PlE H0 H H1 D v m) (hm:MOk m) (f:Bool) {A:Env} {H':Qa} (hF:PlF H0 H H1 D v m l A H') (hl:l.length≤900000) (r5:A 5=.bool f):
  Qj prog ZF ⟨KP H0 H D (l++Qjh f m++[93]) v,Y8⟩ (KP H0 H D (l++Qjh f m++[93]) v) A H':=by
 unfold Qjh
 obtain⟨⟨p',v',hb,hst⟩,r0,r3⟩:=hF
 have hd:=hm.d
 have hI:I64 m.d:=by unfold I64;omega
 have hI2:I64 (-m.d):=by unfold I64;omega
 have wn:IntKind.i64.wrap (-m.d)=-m.d:=w64 hI2
 have hgm:=hE.get hst
 have hh:=Z9 m.d hI
 have hh2:=Z9 (-m.d) hI2
 -- the bracket
 have hbr:∀ (l2:List UInt8) (A2:Env) (H2:Qa) (p2 v2:Value),l2.length≤999000→BAt H0 H2 D l2 p2 v2→KA D v v2 H1 H2→A2 0=.pointer (some ⟨D,0,none⟩)→Qj prog (.seq (.ops [Om 66 (t 0),Ow 67 (.bslice 9 1 1 [.string (mkS [])] [(0,(.const (.string (mkS [93]))))]),Ow 68 (.call Ql [(t 66),(t 67)]),Om 4 (t 68)]) .ret) ⟨KP H0 H D (l2++[93]) v,Y8⟩ (KP H0 H D (l2++[93]) v) A2 H2:=by
  intro l2 A2 H2 p2 v2 hl2 hb2 hs2 q0
  simp only[sxA,sxB,Nat.reduceBEq,Nat.reduceEqDiff,reduceCtorEq,mxA,mxB,Nat.reduceAdd,reduceIte,Nat.reduceLeDiff,splice,syA,q0]
  refine(Kb hb2 [[93]] 1 rfl (by simp;omega) (by simp)).thenW ?_
  rintro _ H3 hn3 hw3 ⟨rfl,p3,v3,hb3,hst3⟩
  simp only[sxA,sxB,Nat.reduceBEq,Nat.reduceEqDiff,reduceCtorEq,Vm]
  have hfin:KA D v v3 H H3:=(hs2.trans hst3).pre hE.x
  exact .mk hfin.next ⟨rfl,p3,v3,by simpa using hb3,hfin⟩
 have hxq:∀n,I64 n→Qf prog XL [.int .i64 n] H' fun u H2=>u=.string (mkS (Qas n))∧Ext H' H2:=fun n hn=>QaW hT.q n hn H' (hT.q.ext H0 H' hE.w hT0 hb.ext)
 have hm5:m.cells[5]? = some (.int .i64 m.d):=rfl
 generalize hcs:m.cells=cs at *
 simp only[ZF,X9,Kg]
 cases f with
 | true=>
  simp only[sxA,sxB,Nat.reduceBEq,Nat.reduceEqDiff,reduceCtorEq,mxA,mxB,Nat.reduceAdd,reduceIte,Nat.reduceLeDiff,splice,r0,r3,r5,hgm,hm5]
  refine(hxq m.d hI).thenW ?_
  rintro _ H2 hn2 hw2 ⟨rfl,hx2⟩
  simp only[sxA,sxB,Nat.reduceBEq,Nat.reduceEqDiff,reduceCtorEq,mxA,mxB,Nat.reduceAdd,reduceIte,Nat.reduceLeDiff,splice,syA,r0]
  refine(Kb (hb.go hx2 hw2) [Qas m.d] 1 rfl (by simp;omega) (by simp)).thenW ?_
  rintro _ H3 hn3 hw3 ⟨rfl,p3,v3,hb3,hst3⟩
  simp only[XF,Wp,WA,cond_true,cond_false]
  rw[GS]at hb3
  refine hbr (l++Qas m.d) _ _ p3 v3 (by rw[List.length_append];omega) hb3 ((hst.post hx2).trans hst3) ?_
  simp only[uxA,uxB,Nat.reduceBEq,r0]
 | false=>
  cases h1:decide (0<m.d) with
  | true=>
   simp only[XW,sxA,sxB,Nat.reduceBEq,Nat.reduceEqDiff,reduceCtorEq,mxA,mxB,Nat.reduceAdd,reduceIte,Nat.reduceLeDiff,splice,r0,r3,r5,hgm,hm5,h1]
   refine(hxq m.d hI).thenW ?_
   rintro _ H2 hn2 hw2 ⟨rfl,hx2⟩
   simp only[sxA,sxB,Nat.reduceBEq,Nat.reduceEqDiff,reduceCtorEq,mxA,mxB,Nat.reduceAdd,reduceIte,Nat.reduceLeDiff,splice,syA,r0]
   refine(Kb (hb.go hx2 hw2) [[32,43,32],Qas m.d] 2 rfl (by simp;omega) (by simp)).thenW ?_
   rintro _ H3 hn3 hw3 ⟨rfl,p3,v3,hb3,hst3⟩
   simp only[XF,Wp,WA,cond_true,cond_false]
   rw[Qhc,List.cons_append,List.cons_append,List.cons_append,List.nil_append]at hb3
   refine hbr (l++(32::43::32::Qas m.d)) _ _ p3 v3 (by simp only[List.length_append,List.length_cons,List.length_nil];omega) hb3 ((hst.post hx2).trans hst3) ?_
   simp only[uxA,uxB,Nat.reduceBEq,r0]
  | false=>
   cases h2:decide (m.d<0) with
   | true=>
    simp only[XW,ZE,sxA,sxB,Nat.reduceBEq,Nat.reduceEqDiff,reduceCtorEq,mxA,mxB,Nat.reduceAdd,reduceIte,Nat.reduceLeDiff,splice,r0,r3,r5,hgm,hm5,h1,h2]
    rw[Qag (ik:=.i64) (n:=m.d) (by simp only[uxA,uxB,Nat.reduceBEq])]
    simp only[sxA,sxB,Nat.reduceBEq,Nat.reduceEqDiff,reduceCtorEq,wn]
    refine(hxq (-m.d) hI2).thenW ?_
    rintro _ H2 hn2 hw2 ⟨rfl,hx2⟩
    simp only[sxA,sxB,Nat.reduceBEq,Nat.reduceEqDiff,reduceCtorEq,mxA,mxB,Nat.reduceAdd,reduceIte,Nat.reduceLeDiff,splice,syA,r0]
    refine(Kb (hb.go hx2 hw2) [[32,45,32],Qas (-m.d)] 2 rfl (by simp;omega) (by simp)).thenW ?_
    rintro _ H3 hn3 hw3 ⟨rfl,p3,v3,hb3,hst3⟩
    simp only[XF,Wp,WA,cond_true,cond_false]
    rw[Qhc,List.cons_append,List.cons_append,List.cons_append,List.nil_append]at hb3
    refine hbr (l++(32::45::32::Qas (-m.d))) _ _ p3 v3 (by simp only[List.length_append,List.length_cons,List.length_nil];omega) hb3 ((hst.post hx2).trans hst3) ?_
    simp only[uxA,uxB,Nat.reduceBEq,r0]
   | false=>
    simp only[XW,ZE,sxA,sxB,Nat.reduceBEq,Nat.reduceEqDiff,reduceCtorEq,mxA,mxB,Nat.reduceAdd,reduceIte,Nat.reduceLeDiff,splice,syA,r0,r3,r5,hgm,hm5,h1,h2]
    refine(Kb hb [[93]] 1 rfl (by simp;omega) (by simp)).thenW ?_
    rintro _ H3 hn3 hw3 ⟨rfl,p3,v3,hb3,hst3⟩
    simp only[sxA,sxB,Nat.reduceBEq,Nat.reduceEqDiff,reduceCtorEq,Vm]
    have hfin:KA D v v3 H H3:=(hst.trans hst3).pre hE.x
    exact .mk hfin.next ⟨rfl,p3,v3,by simpa using hb3,hfin⟩
end
section
variable {T:Qa→Prop} (hT:QoV T) {H0 H:Qa} (hw0:H0.Wf) (hT0:T H0) {D:Nat} {l:List UInt8} {v:Value} {m:Mm}
include hT hT0 in
theorem Qqr {H1:Qa} (hE:PlE H0 H H1 D v m) (hm:MOk m) (f:Bool) {A:Env} {H':Qa} (hF:PlF H0 H H1 D v m l A H') (hl:l.length≤800000) (r5:A 5=.bool f) (w:List UInt8) (ew:w=l++QoU f m++Qjh (f&&isR m.i 0 0) m++[93]):
  Qj prog ZG ⟨KP H0 H D w v,Y8⟩ (KP H0 H D w v) A H':=by
 have hF0:=hF
 obtain⟨⟨p',v',hb,hst⟩,r0,r3⟩:=hF
 have hgm:=hE.get hst
 have hltm:=hE.lt
 have hnst:=hst.next
 have hn2:=Ka m.i
 have hi:=hm.i
 simp only[Mm.cells]at hgm
 simp only[ZG,X9]
 simp only[sxA,sxB,Nat.reduceBEq,Nat.reduceEqDiff,reduceCtorEq,mxA,mxB,Nat.reduceAdd,reduceIte,Nat.reduceLeDiff,splice,r0,r3,r5,hgm,Qi]
 have he:(m.i.c==0&&m.i.n==0)=isR m.i 0 0:=rfl
 simp only[cond_true,he]
 unfold QoU at ew
 cases h:isR m.i 0 0 with
 | true=>
  rw[h,cond_true,Bool.and_true,List.append_nil]at ew
  subst ew
  simp only[Bool.not_true,sxA,sxB,Nat.reduceBEq,Nat.reduceEqDiff,reduceCtorEq,cond_true,Bool.and_true,List.append_nil]
  refine Qqq hT hT0 hE hm f (hF0.env ?_ ?_) (by omega) ?_
  all_goals simp only[uxA,uxB,Nat.reduceBEq,r5]
 | false=>
  obtain⟨i1,i2,i3⟩:=hi h
  rw[h,cond_false,Bool.and_false]at ew
  have hsc:((m.sc.toNat:Nat):Int)=m.sc:=by omega
  have hsn:m.sc.toNat<10:=by omega
  simp only[Bool.not_false,GD,sxA,sxB,Nat.reduceBEq,Nat.reduceEqDiff,reduceCtorEq,mxA,mxB,Nat.reduceAdd,reduceIte,Nat.reduceLeDiff,splice,r0,r3,r5,cgA]
  refine⟨⟨by omega,by omega⟩,?_⟩
  refine(Qqo hb f [] [32,43,32] (by simp;omega)).thenW ?_
  rintro _ H2 hn2 hw2 ⟨rfl,p2,v2,hb2,hst2⟩
  have hgm2:=hE.get (hst.trans hst2)
  simp only[Mm.cells]at hgm2
  have hkp:H2.get H.next=H'.get H.next:=by rw[hgm2,hgm]
  have hlt2:H.next<H2.next:=by omega
  have qn:=Qfa hT.nm m.i i1 H2 (hT.q.ext H0 H2 hE.w hT0 hb2.ext)
  have qd:=Qte m.sc.toNat hsn H2
  rw[hsc]at qd
  simp only[sxA,sxB,Nat.reduceBEq,Nat.reduceEqDiff,reduceCtorEq,mxA,mxB,Nat.reduceAdd,reduceIte,Nat.reduceLeDiff,splice,cgA,hgm,hgm2,r0,r3,eq_self,true_and]
  refine⟨by simp[Qn,Ab.plain],by omega,?_⟩
  refine qn.thenW ?_
  rintro _ H2 _ hw3 ⟨rfl,rfl⟩
  simp only[sxA,sxB,Nat.reduceBEq,Nat.reduceEqDiff,reduceCtorEq,mxA,mxB,Nat.reduceAdd,reduceIte,Nat.reduceLeDiff,splice,hgm2,r0,r3]
  refine⟨fun _ _=>rfl,by simp[Qn,Ab.plain],?_⟩
  refine qd.thenW ?_
  rintro _ H2 _ hw4 ⟨rfl,rfl⟩
  simp only[sxA,sxB,Nat.reduceBEq,Nat.reduceEqDiff,reduceCtorEq,mxA,mxB,Nat.reduceAdd,reduceIte,Nat.reduceLeDiff,splice,syA,r0,r3]
  have hl2:(bif f then([]:List UInt8) else[32,43,32]).length≤3:=by cases f<;>simp
  have hfl:([Xi m.i,[42],QfY m.sc.toNat]:List (List UInt8)).flatten.length≤100:=by rw[QeJ];simp[QfY];omega
  refine(Kb hb2 [Xi m.i,[42],QfY m.sc.toNat] 3 rfl (by rw[List.length_append];omega) (by simp)).thenW ?_
  rintro _ H5 hn5 hw5 ⟨rfl,p5,v5,hb5,hst5⟩
  simp only[sxA,sxB,Nat.reduceBEq,Nat.reduceEqDiff,reduceCtorEq]
  rw[List.append_assoc,QeJ]at hb5
  have hl5:(l++((bif f then([]:List UInt8) else[32,43,32])++(Xi m.i++([42]++QfY m.sc.toNat)))).length≤900000:=by
   rw[QeJ]at hfl
   rw[List.length_append,List.length_append];omega
  subst ew
  refine Qqq hT hT0 hE hm false ⟨⟨p5,v5,hb5,(hst.trans hst2).trans hst5⟩,?_,?_⟩ hl5 ?_
  all_goals simp only[uxA,uxB,Nat.reduceBEq,r0,r3]
include hT hT0 in
theorem QfZ (hw0:H0.Wf) {p:Value} (hb:BAt H0 H D l p v) (hm:MOk m) (hl:l.length≤700000):Qf prog Zi [.pointer (some ⟨D,0,none⟩),.agg m.cells.toArray] H fun u H'=>u=.pointer (some ⟨D,0,none⟩)∧Qg6 H0 H D (l++Qap m) v H':=by
 refine Qek fun hw=>?_
 have ex:(Value.agg m.cells.toArray).cells.toList=m.cells:=rfl
 have hx1:=(Ext.refl H).push (.cells m.cells Qg false)
 have hb1:=hb.go hx1 (hw.push _)
 have hg1:(H.push (.cells m.cells Qg false)).get H.next=some (.cells m.cells Qg false):=by rw[Qa.get_push,if_pos rfl]
 have hn1:(H.push (.cells m.cells Qg false)).next=H.next+1:=rfl
 have hm6:m.cells[6]? = some (.int .i64 m.sz):=rfl
 have hD:=hb.wf.lt hb.get
 have hnv:¬JF v H.next:=fun hi=>by have:=QkQ hb hi;omega
 have hs6:=Qgv m.sz
 obtain⟨w,ew⟩:∃w,w=l++Qap m:=⟨_,rfl⟩
 rw[← ew]
 simp only[VK,ex,sxA,sxB,Nat.reduceBEq,Nat.reduceEqDiff,reduceCtorEq]
 generalize H.push (.cells m.cells Qg false)=H1 at *
 simp only[sxA,sxB,Nat.reduceBEq,Nat.reduceEqDiff,reduceCtorEq,mxA,mxB,Nat.reduceAdd,reduceIte,Nat.reduceLeDiff,splice,hg1,hm6]
 refine(QkR m.sz H1).thenW ?_
 rintro _ H1 _ hw2 ⟨rfl,rfl⟩
 simp only[sxA,sxB,Nat.reduceBEq,Nat.reduceEqDiff,reduceCtorEq,mxA,mxB,Nat.reduceAdd,reduceIte,Nat.reduceLeDiff,splice,syA]
 have hfl:([QaI m.sz,[91]]:List (List UInt8)).flatten.length≤7:=by rw[Qhc];simp;omega
 refine(Kb hb1 [QaI m.sz,[91]] 2 rfl (by omega) (by simp)).thenW ?_
 rintro _ H3 hn3 hw3 ⟨rfl,p3,v3,hb3,hst3⟩
 have hE:PlE H0 H H1 D v m:=⟨hw0,hx1,hg1,by omega,by omega,hnv⟩
 have hg3:=hE.get hst3
 simp only[Mm.cells]at hg3
 rw[Qhc]at hb3
 have hr2:=Ka m.b
 have hb':=hm.b
 have hn31:=hst3.next
 have hlt3:H.next<H3.next:=by omega
 simp only[sxA,sxB,Nat.reduceBEq,Nat.reduceEqDiff,reduceCtorEq,mxA,mxB,Nat.reduceAdd,reduceIte,Nat.reduceLeDiff,splice,hg3,Qi]
 have he:(m.b.c==0&&m.b.n==0)=isR m.b 0 0:=rfl
 simp only[cond_true,he]
 have hl3:(l++(QaI m.sz++[91])).length≤700007:=by rw[Qhc]at hfl;rw[List.length_append];omega
 unfold Qap QnX at ew
 cases h:isR m.b 0 0 with
 | true=>
  rw[h,cond_true,List.append_nil]at ew
  simp only[Bool.not_true,sxA,sxB,Nat.reduceBEq,Nat.reduceEqDiff,reduceCtorEq]
  refine Qqr hT hT0 hE hm true ⟨⟨p3,v3,hb3,hst3⟩,?_,?_⟩ (by omega) ?_ w (by rw[ew];simp only[List.append_assoc])
  all_goals simp only[uxA,uxB,Nat.reduceBEq]
 | false=>
  rw[h,cond_false]at ew
  simp only[Bool.not_false,sxA,sxB,Nat.reduceBEq,Nat.reduceEqDiff,reduceCtorEq,mxA,mxB,Nat.reduceAdd,reduceIte,Nat.reduceLeDiff,splice,hg3]
  refine(Qfa hT.nm m.b (hb' h) H3 (hT.q.ext H0 H3 hw0 hT0 hb3.ext)).thenW ?_
  rintro _ H3 _ hw4 ⟨rfl,rfl⟩
  simp only[sxA,sxB,Nat.reduceBEq,Nat.reduceEqDiff,reduceCtorEq,mxA,mxB,Nat.reduceAdd,reduceIte,Nat.reduceLeDiff,splice,syA]
  refine(Kb hb3 [Xi m.b] 1 rfl (by rw[GS];omega) (by simp)).thenW ?_
  rintro _ H5 hn5 hw5 ⟨rfl,p5,v5,hb5,hst5⟩
  rw[GS]at hb5
  simp only[sxA,sxB,Nat.reduceBEq,Nat.reduceEqDiff,reduceCtorEq]
  refine Qqr hT hT0 hE hm false ⟨⟨p5,v5,hb5,hst3.trans hst5⟩,?_,?_⟩ (by rw[List.length_append];omega) ?_ w (by rw[ew];simp only[List.append_assoc])
  all_goals simp only[uxA,uxB,Nat.reduceBEq]
end
theorem QkT {r:Rg} {c n:Int}:isR r c n=true↔r=⟨c,n⟩:=by
 obtain⟨a,b⟩:=r
 simp[isR]
theorem Qfe {m:Mm} (h:Qm m=0):(-2147483648≤m.d∧m.d≤2147483647)∧YH m.sz=true∧(isR m.b 0 0=true∨isR m.b 8 0=true∨W8 m.b=true)∧
  ((isR m.i 0 0=true∧m.sc=0)∨(isR m.i 0 0=false∧W8 m.i=true∧Xt m.sc=true∧isR m.b 8 0=false∧(isR m.i 5 4=true→m.sc=1∧isR m.b 5 4=false))):=by
 unfold Qm at h
 split at h
 ·simp at h
 ·rename_i h1
  split at h
  ·simp at h
  ·rename_i h2
   split at h
   ·simp at h
   ·rename_i h3
    split at h
    ·simp at h
    ·rename_i h4
     have g1:-2147483648≤m.d∧m.d≤2147483647:=by simp at h1;omega
     have g2:YH m.sz=true:=by simpa using h2
     have g3:isR m.b 0 0=true∨isR m.b 8 0=true∨W8 m.b=true:=by
      cases e1:isR m.b 0 0<;>cases e2:isR m.b 8 0<;>cases e3:W8 m.b<;>simp_all
     refine⟨g1,g2,g3,?_⟩
     split at h
     ·rename_i h5
      left
      refine⟨h5,?_⟩
      simpa[h5] using h4
     ·rename_i h5
      have h5':isR m.i 0 0=false:=by simpa using h5
      right
      split at h
      ·simp at h
      ·rename_i h6
       split at h
       ·simp at h
       ·rename_i h7
        refine⟨h5',?_,?_,?_,?_⟩
        ·cases e:W8 m.i<;>simp_all
        ·cases e:Xt m.sc<;>simp_all
        ·cases e:isR m.b 8 0<;>simp_all
        ·intro e
         rw[e]at h7
         constructor
         ·cases e2:m.sc==1<;>simp_all
         ·cases e2:isR m.b 5 4<;>simp_all
theorem Qj1 {m:Mm} (h1:-2147483648≤m.d∧m.d≤2147483647) (h2:YH m.sz=true) (h3:isR m.b 0 0=true∨isR m.b 8 0=true∨W8 m.b=true)
  (h4:(isR m.i 0 0=true∧m.sc=0)∨(isR m.i 0 0=false∧W8 m.i=true∧Xt m.sc=true∧isR m.b 8 0=false∧(isR m.i 5 4=true→m.sc=1∧isR m.b 5 4=false))):Qm m=0:=by
 unfold Qm
 have e1:(decide (m.d < -2147483648)||decide (m.d>2147483647))=false:=by simp;omega
 have e3:(!isR m.b 0 0&&!isR m.b 8 0&&!W8 m.b)=false:=by rcases h3 with h | h | h<;>simp[h]
 rw[e1,h2,e3]
 simp only[Bool.false_eq_true,if_false,reduceCtorEq]
 rcases h4 with⟨h5,h6⟩ | ⟨h5,h6,h7,h8,h9⟩
 ·simp[h5,h6]
 ·simp only[h5,h6,h7,h8,Bool.false_and,Bool.false_eq_true,if_false,Bool.not_true,Bool.false_or]
  cases e:isR m.i 5 4 with
  | false=>simp
  | true=>
   obtain⟨h10,h11⟩:=h9 e
   simp[h10,h11]
structure QrV (m:Mm):Prop where
 ok:MOk m
 z:isR m.i 0 0=true→m.sc=0
 p:isR m.i 0 0=false→0<m.sc
 chk:Qm m=0
 idem:Wt m=m
theorem QrW {r:Rg} (h:isR r 0 0=true∨isR r 8 0=true∨W8 r=true) (h0:isR r 0 0=false):WW r=true:=by
 rcases h with h | h | h
 ·rw[h]at h0;cases h0
 ·rw[QkT.1 h];decide
 ·unfold W8 at h
  simp only[Bool.and_eq_true]at h
  exact h.2
theorem QrX {r:Rg} (h:W8 r=true):WW r=true:=by
 unfold W8 at h
 simp only[Bool.and_eq_true]at h
 exact h.2
theorem Qqw {r:Rg} (h:W8 r=true):r.c=5:=by
 unfold W8 at h
 simp only[Bool.and_eq_true,beq_iff_eq]at h
 exact h.1
theorem QiJ {n:Int} (h:Xt n=true):1≤n∧n<10:=by
 unfold Xt at h
 simp only[Bool.or_eq_true,beq_iff_eq]at h
 omega
theorem Qtf {m:Mm} (h:Qm m=0):MOk m:=by
 obtain⟨h1,h2,h3,h4⟩:=Qfe h
 refine⟨QrW h3,fun h0=>?_,h1⟩
 rcases h4 with⟨h5,_⟩ | ⟨_,h6,h7,_⟩
 ·rw[h5]at h0;cases h0
 ·have:=QiJ h7
  exact⟨QrX h6,by omega,by omega⟩
theorem Qtg {m:Mm} (h:Qm m=0):QrV (Wt m):=by
 obtain⟨h1,h2,h3,h4⟩:=Qfe h
 have key:Qm (Wt m)=0∧Wt (Wt m)=Wt m:=by
  rcases h4 with⟨h5,h6⟩ | ⟨h5,h6,h7,h8,h9⟩
  ·have e:Wt m=m:=by unfold Wt;simp[h5]
   rw[e]
   exact⟨h,e⟩
  ·cases hs:m.sc==1 with
   | false=>
    have e:Wt m=m:=by unfold Wt;simp[hs]
    rw[e]
    exact⟨h,e⟩
   | true=>
    cases hb:isR m.b 0 0 with
    | true=>
     have e:Wt m=⟨m.i,⟨0,0⟩,0,m.d,m.sz⟩:=by unfold Wt;simp[h5,hs,hb]
     rw[e]
     refine⟨Qj1 h1 h2 (.inr (.inr h6)) (.inl ⟨rfl,rfl⟩),?_⟩
     unfold Wt
     rfl
    | false=>
     cases hi:m.i.n==4 with
     | false=>
      have e:Wt m=m:=by unfold Wt;simp[h5,hs,hb,hi]
      rw[e]
      exact⟨h,e⟩
     | true=>
      have e:Wt m=⟨m.i,m.b,m.sc,m.d,m.sz⟩:=by unfold Wt;simp[h5,hs,hb,hi]
      have hi4:m.i=⟨5,4⟩:=by
       have c:=Qqw h6
       have n:m.i.n=4:=by simpa using hi
       revert c n
       obtain⟨c,n⟩:=m.i
       rintro rfl rfl
       rfl
      have h10:=h9 (QkT.2 hi4)
      have hw:W8 m.b=true:=by
       rcases h3 with h | h | h
       ·rw[h]at hb;cases hb
       ·rw[h]at h8;cases h8
       ·exact h
      have hsc:m.sc=1:=by simpa using hs
      have hbn:(m.b.n==4)=false:=by
       cases hq:m.b.n==4 with
       | false=>rfl
       | true=>
        have n:m.b.n=4:=by simpa using hq
        have c:=Qqw hw
        have:isR m.b 5 4=true:=by unfold isR;rw[c,n];rfl
        rw[this]at h10
        cases h10.2
      rw[e]
      refine⟨Qj1 h1 h2 (.inr (.inr h6)) (.inr ⟨hb,hw,h7,?_,?_⟩),?_⟩
      ·rw[hi4];rfl
      ·intro q
       rw[h10.2]at q
       cases q
      ·have hib:isR m.i 0 0=false:=h5
       unfold Wt
       simp[hb,hs,hib,hbn]
 obtain⟨k1,k2⟩:=key
 obtain⟨_,_,_,g4⟩:=Qfe k1
 refine⟨Qtf k1,fun h0=>?_,fun h0=>?_,k1,k2⟩
 ·rcases g4 with⟨_,g⟩ | ⟨g,_⟩
  ·exact g
  ·rw[h0]at g;cases g
 ·rcases g4 with⟨g,_⟩ | ⟨_,_,g,_⟩
  ·rw[h0]at g;cases g
  ·have:=QiJ g;omega
structure AOk (a:Ar):Prop where
 r:a.k=1→WW a.r=true
 m:a.k=2→QrV a.m
 k:a.k=1∨a.k=2∨a.k=3∨a.k=4
 n:I64 a.n
theorem Qqx (n b:Int) (h:I64 n):I64 (QbI n b):=by
 unfold I64 at *
 unfold QbI
 split
 ·omega
 ·split
  ·omega
  ·split<;>omega
theorem Qqy (n b:Int) (h:I64 n):I64 (QbH n b):=by
 unfold I64 at *
 unfold QbH
 split
 ·omega
 ·split
  ·omega
  ·split<;>omega
theorem Qqz (n b:Int) (sg:Bool) (h:I64 n):I64 (Yw n b sg).1:=by
 unfold Yw
 split
 ·unfold I64;omega
 ·split
  ·unfold I64;omega
  ·split
   ·exact Qqx n b h
   ·exact Qqy n b h
theorem Qm7 {a:Ar} (h:Wu a=0):(a.k=1→WW a.r=true)∧(a.k=2→Qm a.m=0)∧(a.k=1∨a.k=2∨a.k=3∨a.k=4):=by
 unfold Wu at h
 split at h
 ·rename_i h1
  have h1':a.k=1:=by simpa using h1
  refine⟨fun _=>?_,fun h2=>by omega,.inl h1'⟩
  cases e:WW a.r with
  | true=>rfl
  | false=>rw[e]at h;simp at h
 ·rename_i h1
  have h1':¬a.k=1:=by simpa using h1
  split at h
  ·rename_i h2
   have h2':a.k=2:=by simpa using h2
   exact⟨fun h=>absurd h h1',fun _=>h,.inr (.inl h2')⟩
  ·rename_i h2
   have h2':¬a.k=2:=by simpa using h2
   refine⟨fun h=>absurd h h1',fun h=>absurd h h2',?_⟩
   split at h
   ·rename_i h3
    have h3':a.k=3:=by simpa using h3
    exact .inr (.inr (.inl h3'))
   ·split at h
    ·rename_i h4
     have h4':a.k=4:=by simpa using h4
     exact .inr (.inr (.inr h4'))
    ·simp at h
theorem Qsq:I64 0:=by unfold I64;omega
theorem QoY {a:Ar} (hn:I64 a.n) (h:Wu a=0):AOk (Kc a):=by
 obtain⟨h1,h2,h3⟩:=Qm7 h
 unfold Kc
 split
 ·rename_i k1
  have k1':a.k=1:=by simpa using k1
  exact⟨h1,fun h=>by simp only at h;omega,h3,Qsq⟩
 ·rename_i k1
  have k1':¬a.k=1:=by simpa using k1
  split
  ·rename_i k2
   have k2':a.k=2:=by simpa using k2
   exact⟨fun h=>absurd h k1',fun h=>Qtg (h2 k2'),h3,Qsq⟩
  ·rename_i k2
   have k2':¬a.k=2:=by simpa using k2
   exact⟨fun h=>absurd h k1',fun h=>absurd h k2',h3,hn⟩
theorem QoZ {ib:Int×Bool} {a:Ar} (hn:I64 a.n) (h:(Jp ib a).2=0):AOk (Jp ib a).1:=by
 have hb:QP a=if(Wu a==0)=true then(Kc a,0) else(QjZ,Wu a):=rfl
 have e:Jp ib a=if((QP a).2==0)=false then(a,(QP a).2) else if((QP a).1.k==3)=true then({(QP a).1 with n:=(Yw (QP a).1.n ib.1 ib.2).1},(Yw (QP a).1.n ib.1 ib.2).2) else((QP a).1,0):=rfl
 cases hc:Wu a==0 with
 | false=>
  rw[hb,hc]at e
  simp only[Bool.false_eq_true,if_false,hc,if_true]at e
  rw[e]at h
  simp only at h
  rw[h]at hc
  cases hc
 | true=>
  have hc0:Wu a=0:=by simpa using hc
  rw[hb,hc]at e
  have o:=QoY hn hc0
  simp only[if_true,beq_self_eq_true,Bool.true_eq_false,if_false]at e
  rw[e]
  split
  ·rename_i k3
   have k3':(Kc a).k=3:=by simpa using k3
   exact⟨fun h=>by simp only at h;omega,fun h=>by simp only at h;omega,.inr (.inr (.inl k3')),Qqz _ _ _ o.n⟩
  ·exact o
theorem QiK {ib:Int×Bool}:∀ {l:List Ar},(∀a∈l,I64 a.n)→(Wv ib l).2=0→∀a∈(Wv ib l).1,AOk a
 | [],_,_,a,ha=>by cases ha
 | b::l,hn,h,a,ha=>by
  unfold Wv at h ha
  split at h
  ·rename_i h1
   rw[if_pos h1]at ha
   rcases List.mem_cons.1 ha with rfl | ha
   ·exact QoZ (hn b (List.mem_cons_self ..)) (by simpa using h1)
   ·exact QiK (fun x hx=>hn x (List.mem_cons_of_mem _ hx)) h a ha
  ·rename_i h1
   simp only at h
   exact absurd (beq_iff_eq.2 h) h1
theorem Qo0 {op:Int} {l:List Ar} {a:Ar} (h:a∈X4 op l):a∈l:=by
 unfold X4 at h
 split at h
 ·split at h
  ·rename_i x y _
   rcases List.mem_cons.1 h with rfl | h
   ·exact List.mem_cons_self ..
   ·exact h
  ·exact h
 ·split at h
  ·simpa using h
  ·split at h
   ·simpa using h
   ·exact h
theorem QlR (ib:Int×Bool):∀l:List Ar,(Wv ib l).1.length≤l.length
 | []=>Nat.le_refl _
 | a::l=>by
  unfold Wv
  split
  ·have:=QlR ib l
   simp only[List.length_cons];omega
  ·exact Nat.zero_le _
theorem QqA (op:Int) (l:List Ar):(X4 op l).length≤l.length+1:=by
 unfold X4
 split
 ·split
  ·simp
  ·exact Nat.le_succ _
 ·split
  ·simp
  ·split
   ·simp
   ·exact Nat.le_succ _
theorem QlS {op:Int} {l:List Ar} (hn:∀a∈l,I64 a.n) (h:(Wy op l).2.2=0):(Wy op l).1=op∧WI op=true∧(Wy op l).2.1.length≤5∧∀a∈(Wy op l).2.1,AOk a:=by
 unfold Wy at h ⊢
 split at h
 ·rename_i h1
  simp only at h
  rw[h]at h1
  cases h1
 ·rename_i h1
  split at h
  ·rename_i h2
   simp only at h
   rw[h]at h2
   cases h2
  ·rename_i h2
   rw[if_neg h1,if_neg h2]
   have h1':WG op l=0:=by simpa using h1
   have h2':(Wv (Wn op l) l).2=0:=by simpa using h2
   refine⟨rfl,?_,?_,fun a ha=>QiK hn h2' a (Qo0 ha)⟩
   ·cases e:WI op with
    | true=>rfl
    | false=>unfold WG at h1';simp[e]at h1'
   ·have q1:=QqA op (Wv (Wn op l) l).1
    have q2:=QlR (Wn op l) l
    have q3:l.length≤4:=by
     unfold WG at h1'
     split at h1'
     ·simp at h1'
     ·split at h1'
      ·simp at h1'
      ·omega
    show(X4 op (Wv (Wn op l) l).1).length≤5
    omega
theorem Qm8 (n:Int):I64 (IntKind.i64.wrap n):=by rw[IntKind.wrap_i64];unfold I64;omega
def QiL (next:Int) (a:Ar):List UInt8:=if(a.k==1)=true then Xi a.r else if(a.k==2)=true then Qap a.m else if(a.k==3)=true then Qas a.n else Qas (IntKind.i64.wrap (a.n+next))
theorem QiM {next:Int} {a:Ar} (h:AOk a):(QiL next a).length≤100:=by
 unfold QiL
 split
 ·have:=Ka a.r;omega
 ·split
  ·rename_i h2
   exact QiF (h.m (by simpa using h2)).ok
  ·split
   ·have:=Z9 a.n h.n;omega
   ·have:=Z9 (IntKind.i64.wrap (a.n+next)) (Qm8 _);omega
section
variable {T:Qa→Prop} (hT:QoV T) {H0 H:Qa} (hw0:H0.Wf) (hT0:T H0) {D:Nat} {l:List UInt8} {v:Value}
include hT hT0 hw0 in
theorem QiN {p:Value} (hb:BAt H0 H D l p v) {a:Ar} (ha:AOk a) (next:Int) (hl:l.length≤600000):Qf prog ZX [.pointer (some ⟨D,0,none⟩),.agg a.cells.toArray,.int .i64 next] H fun u H'=>u=.pointer (some ⟨D,0,none⟩)∧Qg6 H0 H D (l++QiL next a) v H':=by
 refine Qc6 fun hw=>?_
 have ex:(Value.agg a.cells.toArray).cells.toList=a.cells:=rfl
 have hx1:=(Ext.refl H).push (.cells a.cells Qc false)
 have hb1:=hb.go hx1 (hw.push _)
 have hg1:(H.push (.cells a.cells Qc false)).get H.next=some (.cells a.cells Qc false):=by rw[Qa.get_push,if_pos rfl]
 have hn1:(H.push (.cells a.cells Qc false)).next=H.next+1:=rfl
 have hlen:=QiM (next:=next) ha
 obtain⟨w,ew⟩:∃w,w=QiL next a:=⟨_,rfl⟩
 rw[← ew]at hlen ⊢
 have hT1:T (H.push (.cells a.cells Qc false)):=hT.q.ext H0 _ hw0 hT0 hb1.ext
 have fin:∀ (p':Value) (H2:Qa),Ext (H.push (.cells a.cells Qc false)) H2→H2.Wf→∀ (w':List UInt8),w'=w→Qf prog Ql [.pointer (some ⟨D,0,none⟩),.slice (some ⟨H2.next,0,none⟩) 1 1] (H2.push (.cells (Qja [w']) 9 false)) fun u H'=>u=.pointer (some ⟨D,0,none⟩)∧Qg6 H0 H D (l++w) v H':=by
  intro p' H2 hx2 hw2 w' e
  subst e
  refine(Kb (hb1.go hx2 hw2) [w'] 1 rfl (by rw[GS];omega) (by simp)).mono ?_
  rintro u H' ⟨rfl,p3,v3,hb3,hst3⟩
  rw[GS]at hb3
  exact⟨rfl,p3,v3,hb3,(hst3.pre hx2).pre hx1⟩
 have hl0:=hb.ext
 obtain⟨k,⟨rc,rn⟩,⟨⟨bc,bn⟩,⟨ic,nn⟩,sc,d,sz⟩,n⟩:=a
 simp only[Ar.cells]at *
 simp only[GG,ex,sxA,sxB,Nat.reduceBEq,Nat.reduceEqDiff,reduceCtorEq]
 generalize H.push _=H1 at *
 simp only[sxA,sxB,Nat.reduceBEq,Nat.reduceEqDiff,reduceCtorEq,mxA,mxB,Nat.reduceAdd,reduceIte,Nat.reduceLeDiff,splice,hg1]
 unfold QiL at ew
 refine Qe (fun h=>?_) (fun h=>?_)
 ·rw[if_pos h]at ew
  simp only[sxA,sxB,Nat.reduceBEq,Nat.reduceEqDiff,reduceCtorEq,mxA,mxB,Nat.reduceAdd,reduceIte,Nat.reduceLeDiff,splice,hg1]
  refine(Qfa hT.nm ⟨rc,rn⟩ (ha.r (by simpa using h)) H1 hT1).thenW ?_
  rintro _ H2 _ hw2 ⟨rfl,rfl⟩
  simp only[sxA,sxB,Nat.reduceBEq,Nat.reduceEqDiff,reduceCtorEq,mxA,mxB,Nat.reduceAdd,reduceIte,Nat.reduceLeDiff,splice,syA]
  refine(fin p _ (.refl _) hw2 _ ew.symm).thenW ?_
  rintro _ H3 hn3 hw3 ⟨rfl,hq⟩
  simp only[sxA,sxB,Nat.reduceBEq,Nat.reduceEqDiff,reduceCtorEq,XI]
  obtain⟨p3,v3,q1,q2⟩:=hq
  exact .mk q2.next ⟨rfl,p3,v3,q1,q2⟩
 ·rw[if_neg (by simp[h])]at ew
  simp only[Kr,sxA,sxB,Nat.reduceBEq,Nat.reduceEqDiff,reduceCtorEq,mxA,mxB,Nat.reduceAdd,reduceIte,Nat.reduceLeDiff,splice]
  refine Qe (fun h2=>?_) (fun h2=>?_)
  ·rw[if_pos h2]at ew
   have hmo:MOk ⟨⟨bc,bn⟩,⟨ic,nn⟩,sc,d,sz⟩:=(ha.m (by simpa using h2)).ok
   simp only[sxA,sxB,Nat.reduceBEq,Nat.reduceEqDiff,reduceCtorEq,mxA,mxB,Nat.reduceAdd,reduceIte,Nat.reduceLeDiff,splice,hg1]
   refine(QfZ hT hT0 hw0 hb1 hmo (by omega)).thenW ?_
   rintro _ H3 hn3 hw3 ⟨rfl,p3,v3,hb3,hst3⟩
   rw[← ew]at hb3
   simp only[sxA,sxB,Nat.reduceBEq,Nat.reduceEqDiff,reduceCtorEq,XI]
   exact .mk (hst3.pre hx1).next ⟨rfl,p3,v3,hb3,hst3.pre hx1⟩
  ·rw[if_neg (by simp[h2])]at ew
   simp only[Kq,sxA,sxB,Nat.reduceBEq,Nat.reduceEqDiff,reduceCtorEq,mxA,mxB,Nat.reduceAdd,reduceIte,Nat.reduceLeDiff,splice]
   refine Qe (fun h3=>?_) (fun h3=>?_)
   ·rw[if_pos h3]at ew
    simp only[sxA,sxB,Nat.reduceBEq,Nat.reduceEqDiff,reduceCtorEq,mxA,mxB,Nat.reduceAdd,reduceIte,Nat.reduceLeDiff,splice,hg1]
    refine(QaW hT.q n ha.n H1 hT1).thenW ?_
    rintro _ H2 _ hw2 ⟨rfl,hx2⟩
    simp only[sxA,sxB,Nat.reduceBEq,Nat.reduceEqDiff,reduceCtorEq,mxA,mxB,Nat.reduceAdd,reduceIte,Nat.reduceLeDiff,splice,syA]
    refine(fin p _ hx2 hw2 _ ew.symm).thenW ?_
    rintro _ H3 hn3 hw3 ⟨rfl,hq⟩
    simp only[sxA,sxB,Nat.reduceBEq,Nat.reduceEqDiff,reduceCtorEq,XI]
    obtain⟨p3,v3,q1,q2⟩:=hq
    exact .mk q2.next ⟨rfl,p3,v3,q1,q2⟩
   ·rw[if_neg (by simp[h3])]at ew
    simp only[sxA,sxB,Nat.reduceBEq,Nat.reduceEqDiff,reduceCtorEq,mxA,mxB,Nat.reduceAdd,reduceIte,Nat.reduceLeDiff,splice,hg1]
    refine(QaW hT.q _ (Qm8 _) H1 hT1).thenW ?_
    rintro _ H2 _ hw2 ⟨rfl,hx2⟩
    simp only[sxA,sxB,Nat.reduceBEq,Nat.reduceEqDiff,reduceCtorEq,mxA,mxB,Nat.reduceAdd,reduceIte,Nat.reduceLeDiff,splice,syA]
    refine(fin p _ hx2 hw2 _ ew.symm).thenW ?_
    rintro _ H3 hn3 hw3 ⟨rfl,hq⟩
    simp only[sxA,sxB,Nat.reduceBEq,Nat.reduceEqDiff,reduceCtorEq,XI]
    obtain⟨p3,v3,q1,q2⟩:=hq
    exact .mk q2.next ⟨rfl,p3,v3,q1,q2⟩
theorem QnY (H:Qa) (hw:H.Wf):BAt H (H.push (.cells [.pointer none,.slice none 0 0] Xm false)) H.next [] (.pointer none) (.slice none 0 0):=
 ⟨by rw[Qa.get_push,if_pos rfl],.inl rfl,.inl ⟨rfl,rfl,rfl⟩,Nat.le_refl _,by simp[JF],hw.push _,(Ext.refl H).push _⟩
def QaY (m:Mm):List UInt8×Int:=if(Qm m==0)=true then(Qap (Wt m),0) else([],Qm m)
theorem Qo1 (m:Mm):1≤(Qap m).length:=by unfold Qap;simp only[List.length_append,List.length_cons];omega
include hT in
theorem Qjj (m:Mm) (hTH:T H):Qf prog QaQ [.agg m.cells.toArray] H fun u H'=>u=.tuple #[.string (mkS (QaY m).1),.int .i64 (QaY m).2]∧Ext H H':=by
 refine Qiq fun hw=>?_
 have q:=Qhb m
 have hce:Gj m=if Qm m=0 then(Wt m,0) else(Gi,Qm m):=rfl
 have hcan:=@Qtg m
 have hx1:=(Ext.refl H).push (.cells m.cells Qg false)
 have hw1:=hw.push (.cells m.cells Qg false)
 have hg1:(H.push (.cells m.cells Qg false)).get H.next=some (.cells m.cells Qg false):=by rw[Qa.get_push,if_pos rfl]
 have hn1:(H.push (.cells m.cells Qg false)).next=H.next+1:=rfl
 obtain⟨w,ew⟩:∃w,w=QaY m:=⟨_,rfl⟩
 rw[← ew]
 unfold QaY at ew
 obtain⟨e,he⟩:∃e,Qm m=e:=⟨_,rfl⟩
 rw[he]at ew hce hcan
 rw[hce]at q
 clear hce
 generalize hc:Wt m=c at *
 clear he hc
 obtain⟨⟨bc,bn⟩,⟨ic,nn⟩,sc,d,sz⟩:=m
 simp only[Mm.cells]at hx1 hw1 hg1 hn1 q
 simp only[Mm.cells,QdL,sxA,sxB,Nat.reduceBEq,Nat.reduceEqDiff,reduceCtorEq,mxA,mxB,Nat.reduceAdd,reduceIte,Nat.reduceLeDiff,splice]
 generalize H.push _=H1 at *
 refine(q H1).thenW ?_
 rintro _ H2 hn2 hw2 ⟨rfl,k,rfl⟩
 simp only[Qa.next_up]at hn2
 have hup:(H1.up k).get H.next=some (.cells [.int .i64 bc,.int .i64 bn,.int .i64 ic,.int .i64 nn,.int .i64 sc,.int .i64 d,.int .i64 sz] Qg false):=by rw[Qa.get_up];exact hg1
 have hx2:Ext H (H1.up k):=hx1.up hn2
 generalize H1.up k=H2 at *
 cases h:e==0 with
 | false=>
  rw[h,if_neg (by simp)]at ew
  have he:¬e=0:=by simpa using h
  simp only[if_neg he,sxA,sxB,Nat.reduceBEq,Nat.reduceEqDiff,reduceCtorEq,mxA,mxB,Nat.reduceAdd,reduceIte,Nat.reduceLeDiff,splice,hup,h,Bool.not_false,QcD]
  subst ew
  have hx3:=hx2.set (i:=H.next) (Nat.le_refl _) (.cells [.int .i64 0,.int .i64 0,.int .i64 0,.int .i64 0,.int .i64 0,.int .i64 0,.int .i64 0] Qg false)
  exact .mk hx3.next ⟨rfl,hx3⟩
 | true=>
  have he:e=0:=by simpa using h
  have hc:=(hcan he).ok
  rw[h,if_pos rfl]at ew
  have hlt2:¬H.next=H2.next:=by have:=hw2.lt hup;omega
  simp only[he,if_true,sxA,sxB,Nat.reduceBEq,Nat.reduceEqDiff,reduceCtorEq,mxA,mxB,Nat.reduceAdd,reduceIte,Nat.reduceLeDiff,splice,hup,hlt2,if_false,beq_self_eq_true,Bool.not_true,Qbe]
  subst ew
  have hx3:=hx2.set (i:=H.next) (Nat.le_refl _) (.cells c.cells Qg false)
  have hw3:=hw2.set hup (.cells c.cells Qg false)
  have hg3:(H2.set H.next (.cells c.cells Qg false)).get H.next=some (.cells c.cells Qg false):=by rw[Qa.get_set,if_pos rfl]
  have hn3:(H2.set H.next (.cells c.cells Qg false)).next=H2.next:=Qa.next_set ..
  simp only[Mm.cells]at hx3 hw3 hg3 hn3
  generalize H2.set H.next _=H3 at *
  have hb:=QnY H3 hw3
  rw[hn3]at hb
  have hlt:=hw3.lt hg3
  have hg4:(H3.push (.cells [.pointer none,.slice none 0 0] Xm false)).get H.next=H3.get H.next:=by rw[Qa.get_push,if_neg (by omega)]
  have hT4:T H3:=hT.q.ext H H3 hw hTH hx3
  simp only[hg4,hg3,sxA,sxB,Nat.reduceBEq,Nat.reduceEqDiff,reduceCtorEq,mxA,mxB,Nat.reduceAdd,reduceIte,Nat.reduceLeDiff,splice]
  refine(QfZ hT hT4 hw3 hb hc (by simp)).thenW ?_
  rintro _ H5 hn5 hw5 ⟨rfl,p5,v5,hb5,hst5⟩
  have hg5:=hb5.get
  simp only[sxA,sxB,Nat.reduceBEq,Nat.reduceEqDiff,reduceCtorEq,mxA,mxB,Nat.reduceAdd,reduceIte,Nat.reduceLeDiff,splice,ZV,hg5]
  have hne:=Qo1 c
  have hle:=QiF hc
  refine(QjX hb5 (by simpa using hne) (by simp;omega)).thenW ?_
  rintro _ H6 hn6 hw6 ⟨rfl,hx6⟩
  simp only[sxA,sxB,Nat.reduceBEq,Nat.reduceEqDiff,reduceCtorEq,QcD,List.nil_append]
  have hx7:=hx3.trans hx6
  exact .mk hx7.next ⟨rfl,hx7⟩
end
end Go.Proofs.YtdjkkoacinpdeaaGreatDoor.code
