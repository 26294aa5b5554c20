/- The law EncodeShort, walked. -/
import Derived.Test.YtgepgbbjfhggfaaGreatDoorLibJ
import Derived.Test.YtgepgbbjfhggfaaGreatDoorFDCopy
import Derived.Test.YtgepgbbjfhggfaaGreatDoorU1Same
import Derived.Test.YtgepgbbjfhggfaaGreatDoorBTSame
import Derived.Test.YtgepgbbjfhggfaaGreatDoorC7Free
set_option linter.unusedVariables false
set_option linter.unusedSimpArgs false
set_option maxRecDepth 100000
set_option maxHeartbeats 4000000
namespace Go.Proofs.YtgepgbbjfhggfaaGreatDoor.code
open Go.Ab
section
variable {T:Qa->Prop} {L:Int->List Fm} (hT:∀H H',H.Wf->T H->Ext H H'->T H') (hO:∀op H,T H->Qe prog 15 [.int .i64 op] H λu H'=>Qnf H H' u (L op)) (hR:∀op H,T H->Qe prog 33 [.int .i64 op] H λu H'=>Qnf H H' u (L op)) (hC:∀op,∀f∈L op,Chk f∧QeY f=0)
include hT hO hR hC
theorem Qt4 {op hint:Int}{va:Value}{l:List Ar}(H:Qa)(hA:∀H,T H->Qe prog 7 [] H λu H'=>u=.bool true∧Ext H H')(hTH:T H)(ha:Qv H va l)(hI:∀a∈l,I64 a.n):
  Qe prog 3 [.agg #[.int .i64 op,va],.int .i64 hint] H λu H'=>u=.bool true∧Ext H H':=by
 refine QdG λhw=>?_;obtain⟨a0,cap,rfl⟩:=Qu ha;simp only[Kd,KG,simprocAttr];generalize hH1:Qa.push H _=H1;have g1:H1.get H.next=some (.cells [.int .i64 op,.slice a0 l.length cap] 24 false):=by rw[<- hH1,Qd,Lc rfl];rfl
 have hx1:Ext H H1:=by rw[<- hH1];exact(Ext.refl H).push _
 have hw1:H1.Wf:=by rw[<- hH1];exact hw.push _
 clear hH1;simp only[Qb,simprocAttr,g1,Wj];refine Qf (λh=>?_) (λh=>?_)
 ·simp only[Qb,simprocAttr];refine(hA H1 (hT _ _ hw hTH hx1)).thenW ?_;rintro _ H2 hn2 hw2 ⟨rfl,hx12⟩;have hx2:=hx1.trans hx12;simp only[Qb,simprocAttr,JE];exact .mk hx2.next ⟨rfl,hx2⟩
 ·have hl:l.length<=1000:=by have:=Ll h;omega
  simp only[Jy,Qb,simprocAttr,g1];refine(QzS op _ l H1 (ha.ext hw hx1) hl).thenW ?_;rintro _ H2 hn2 hw2 ⟨v2,rfl,hv2,hb2,hx12⟩;obtain⟨a2,cap2,rfl⟩:=Qu hv2;have k1:H2.get H.next=some (.cells [.int .i64 op,.slice a0 l.length cap] 24 false):=by rw[hx12.get _ (hw1.lt g1)];exact g1
  have n1:¬H.next=H2.next:=by have:=hw2.lt k1;omega
  simp only[Qb,simprocAttr,n1,LN];generalize hH3:Qa.set (Qa.push H2 _) _ _=H3;have hx23:Ext H2 H3:=by rw[<- hH3];exact((Ext.refl H2).push _).set (Lb _) _
  have hw3:H3.Wf:=by rw[<- hH3];exact(hw2.push _).set (b0:=.cells [.int .i64 0,.slice none 0 0] 24 false) (by rw[Qd,Lc rfl]) _
  have j2:H3.get H2.next=some (.cells [.int .i64 op,.slice a2 l.length cap2] 24 false):=by rw[<- hH3,Qq,Lc rfl]
  clear hH3;have hx3:=(hx1.trans hx12).trans hx23;have hv3:=hv2.ext hw2 hx23;refine(Qjc hT hO hint H3 (hT _ _ hw hTH hx3) hv3 (λn hn=>hb2 n (by have:=hx23.next;omega)) hl hI).thenW ?_;rintro _ H4 hn4 hw4 ⟨v4,rfl,h4,hx34⟩;have hx4:=hx3.trans hx34;have k1:H4.get H.next=some (.cells [.int .i64 op,.slice a0 l.length cap] 24 false):=by rw[(hx23.trans hx34).get _ (hw2.lt k1)];exact k1
  simp only[Qb,simprocAttr,k1];refine(Qv6 hT hR hC (w:=hint) H4 (hT _ _ hw hTH hx4) (ha.ext hw hx4) hl hI).thenW ?_;rintro _ H5 hn5 hw5 ⟨v5,rfl,h5,hx45⟩;have hx5:=hx4.trans hx45;have hx35:=hx34.trans hx45;have k1:H5.get H.next=some (.cells [.int .i64 op,.slice a0 l.length cap] 24 false):=by rw[hx45.get _ (hw4.lt k1)];exact k1
  have k2:H5.get H2.next=some (.cells [.int .i64 op,.slice a2 l.length cap2] 24 false):=by rw[hx35.get _ (hw3.lt j2)];exact j2
  have h45:=h4.go hw4 hx45;generalize QjO (L op) op l hint=W at *;have hW:(W.2==W.2)=true:=by simp
  simp only[Qb,simprocAttr,hW];refine(QAX _ _ W.1 W.1 H5 h45 h5).thenW ?_;rintro _ H5 _ _ ⟨rfl,rfl⟩;rw[Qs6];have hs:=QzU op op (.slice a2 l.length cap2) (.slice a0 l.length cap) l l H5 (hv3.ext hw3 hx35) (ha.ext hw hx5) (by omega) (by omega);have e1:((op==op)&&decide (l=l))=true:=by simp
  rw[e1]at hs;simp only[Qb,simprocAttr,syA,k1,k2];refine hs.thenW ?_;rintro _ _ hn6 hw6 ⟨rfl,k,rfl⟩;simp only[Ql]at hn6;simp only[Qb,simprocAttr];have hx6:=hx5.up hn6;refine(hA _ (hT _ _ hw hTH hx6)).thenW ?_;rintro _ H7 hn7 hw7 ⟨rfl,hx67⟩;have hx7:=hx6.trans hx67;simp only[Qb,simprocAttr,JE];exact .mk hx7.next ⟨rfl,hx7⟩
end
end Go.Proofs.YtgepgbbjfhggfaaGreatDoor.code
