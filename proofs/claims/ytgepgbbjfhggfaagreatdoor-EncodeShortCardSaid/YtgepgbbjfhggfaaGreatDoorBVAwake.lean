/- linotypelaw20.awake: some examples. -/
import Derived.Test.YtgepgbbjfhggfaaGreatDoorBTSame
set_option linter.unusedVariables false
set_option linter.unusedSimpArgs false
set_option maxRecDepth 100000
set_option maxHeartbeats 4000000
namespace Go.Proofs.YtgepgbbjfhggfaaGreatDoor.code
open Go.Ab
theorem Qnp (H:Qa)(b b':Blk):Ext H ((H.push b).set H.next b'):=((Ext.refl H).push b).set (Lb _) b'
theorem Qv8 (H:Qa)(bs:List Int):Gx 1 5 H (H.push (.cells (bys bs) 5 false)) (.slice (some ⟨H.next,0,none⟩) bs.length bs.length) bs.length (bys bs):=.inr ⟨_,_,rfl,Lb _,by rw[Qd,Lc rfl],by rw[Xd,NH],.inl rfl⟩
theorem QFW (c k:Int)(H:Qa):Qe prog 26 [.int .i64 c,.int .i64 k] H λu H'=>u=.agg (Ar.cells ⟨1,⟨c,k⟩,J7,0⟩).toArray∧Ext H H':=by
 refine Qnm λhw=>?_;simp only[Qe1,Qb,simprocAttr,QlR];exact .mk (Qnp _ _ _).next ⟨rfl,Qnp _ _ _⟩
theorem QFX (k:Int)(H:Qa):Qe prog 27 [.int .i64 k] H λu H'=>u=.agg (Ar.cells ⟨3,⟨0,0⟩,J7,k⟩).toArray∧Ext H H':=by
 refine Qnn λhw=>?_;simp only[Qe2,Qb,simprocAttr,QlS];exact .mk (Qnp _ _ _).next ⟨rfl,Qnp _ _ _⟩
theorem Qs7 (op:Int)(a:Option Addr)(n c:Nat)(H:Qa):Qe prog 24 [.int .i64 op,.slice a n c] H λu H'=>u=.agg #[.int .i64 op,.slice a n c]∧Ext H H':=by
 refine QlP λhw=>?_;simp only[QdX,Qb,simprocAttr,Qld];exact .mk (Qnp _ _ _).next ⟨rfl,Qnp _ _ _⟩
section
variable {T:Qa->Prop} {L:Int->List Fm} (hT:∀H H',H.Wf->T H->Ext H H'->T H') (hO:∀op H,T H->Qe prog 15 [.int .i64 op] H λu H'=>Qnf H H' u (L op))
include hT hO
theorem Qs8 {op w:Int}{va vb:Value}{l:List Ar}{ws:List Int}{H0 H:Qa}(hTH:T H)(ha:Qv H va l)(hva:∀n,H.next<=n->Qh n 6 (.agg #[.int .i64 op,va])=true)(hl:l.length<=1000)(hI:∀a∈l,I64 a.n)(hb:Gx 1 5 H0 H vb ws.length (bys ws))(he:QjO (L op) op l w=(ws,0)):
  Qe prog 25 [.agg #[.int .i64 op,va],.int .i64 w,vb] H λu H'=>u=.bool true∧Ext H H':=by
 refine QlQ λhw=>?_;obtain⟨a0,cap,rfl⟩:=Qu ha;simp only[QdY,KG,simprocAttr];generalize hH1:Qa.push H _=H1;have g1:H1.get H.next=some (.cells [.int .i64 op,.slice a0 l.length cap] 24 false):=by rw[<- hH1,Qd,Lc rfl];rfl
 have hx1:Ext H H1:=by rw[<- hH1];exact(Ext.refl H).push _
 have hw1:H1.Wf:=by rw[<- hH1];exact hw.push _
 clear hH1;simp only[Qb,simprocAttr,g1];refine(Qjc hT hO w H1 (hT _ _ hw hTH hx1) (ha.ext hw hx1) (λn hn=>hva n (by have:=hx1.next;omega)) hl hI).thenW ?_;rintro _ H2 hn2 hw2 ⟨v8,rfl,h8,hx12⟩;rw[he]at h8 ⊢;have hx2:=hx1.trans hx12;have z0:((0:Int)==0)=true:=rfl;simp only[Qb,simprocAttr,z0];refine(QAX _ _ ws ws H2 h8 ((hb.go hw hx1).go hw1 hx12)).thenW ?_;rintro _ H2 _ _ ⟨rfl,rfl⟩;rw[Qs6];simp only[Qb,simprocAttr,Qle];exact .mk hx2.next ⟨rfl,hx2⟩
theorem QzV {op:Int}{va:Value}{l:List Ar}{W:List Ld}{H:Qa}(hTH:T H)(ha:Qv H va l)(hva:∀n,H.next<=n->Qh n 6 (.agg #[.int .i64 op,va])=true)(hl:l.length<=1000)(hI:∀a∈l,I64 a.n)(he:Qnl (L op) op l=(W,0)):
  Qe prog 28 [.agg #[.int .i64 op,va]] H λu H'=>u=.int .i64 W.length∧Ext H H':=by
 refine QjP λhw=>?_;obtain⟨a0,cap,rfl⟩:=Qu ha;simp only[Qcm,KG,simprocAttr];generalize hH1:Qa.push H _=H1;have g1:H1.get H.next=some (.cells [.int .i64 op,.slice a0 l.length cap] 24 false):=by rw[<- hH1,Qd,Lc rfl];rfl
 have hx1:Ext H H1:=by rw[<- hH1];exact(Ext.refl H).push _
 have hw1:H1.Wf:=by rw[<- hH1];exact hw.push _
 clear hH1;simp only[Qb,simprocAttr,g1];refine(Qv4 hT hO H1 (hT _ _ hw hTH hx1) (ha.ext hw hx1) (λn hn=>hva n (by have:=hx1.next;omega)) hl hI).thenW ?_;rintro _ H2 hn2 hw2 ⟨v8,rfl,h8,hx12⟩;rw[he]at h8 ⊢;have hx2:=hx1.trans hx12;have z0:((0:Int)==0)=true:=rfl;obtain⟨a8,c8,rfl⟩:=h8.ls.slc;simp only[Qb,simprocAttr,z0,L8,Wj,Qix];exact .mk hx2.next ⟨rfl,hx2⟩
def exA:Ar:=⟨1,⟨4,0⟩,J7,0⟩
def exB:Ar:=⟨3,⟨0,0⟩,J7,5⟩
def exC:Ar:=⟨4,⟨0,0⟩,J7,5⟩
theorem Qx3 {W:List Ld}(h1:QjO (L 1) 1 [exA,exB] 0=([131,192,5],0))(h2:QjO (L 54) 54 [exC] 0=([235,5],0))(h3:QjO (L 54) 54 [exC] 2=([233,5,0,0,0],0))(h4:Qnl (L 50) 50 []=(W,0))(hW:W.length=2)(H:Qa)(hTH:T H):
  Qe prog 7 [] H λu H'=>u=.bool true∧Ext H H':=by
 refine Qiw λhw=>?_;simp only[QbL,Qb,simprocAttr];have g0:(H.push (.cells (Qi [exC]) 58 false)).get H.next=some (.cells (Qi [exC]) 58 false):=by rw[Qd,Lc rfl]
 have hx0:=(Ext.refl H).push (.cells (Qi [exC]) 58 false);have hw0:=hw.push (.cells (Qi [exC]) 58 false);have e0:H.push (.cells [.int .i64 4,.int .i64 0,.int .i64 0,.int .i64 0,.int .i64 0,.int .i64 0,.int .i64 0,.int .i64 0,.int .i64 0,.int .i64 0,.int .i64 5] 58 false)=H.push (.cells (Qi [exC]) 58 false):=rfl;rw[e0];clear e0;generalize H.push (.cells (Qi [exC]) 58 false)=H1 at *;have l0:=hw0.lt g0;refine(Qs7 54 _ _ _ H1).thenW ?_;rintro _ H2 hn2 hw2 ⟨rfl,hx12⟩;simp only[Qb,simprocAttr];generalize hH3:(H2.push _).set H2.next _=H3;have hx23:Ext H2 H3:=by rw[<- hH3];exact Qnp _ _ _
 have hw3:H3.Wf:=by rw[<- hH3];exact(hw2.push _).set (b0:=.cells [.int .i64 0,.slice none 0 0] 24 false) (by rw[Qd,Lc rfl]) _
 have g3:H3.get H2.next=some (.cells [.int .i64 54,.slice (some ⟨H.next,0,none⟩) 1 1] 24 false):=by rw[<- hH3,Qq,Lc rfl]
 clear hH3;refine(QFW 4 0 H3).thenW ?_;rintro _ H4 hn4 hw4 ⟨rfl,hx34⟩;simp only[Qb,simprocAttr];refine(QFX 5 H4).thenW ?_;rintro _ H5 hn5 hw5 ⟨rfl,hx45⟩;simp only[Qb,simprocAttr,Ar.cells,Rg.cells,Mm.cells,J7,Nm,LH];have hx5:=((hx12.trans hx23).trans hx34).trans hx45;have g65:(H5.push (.cells (Qi [exA,exB]) 58 false)).get H5.next=some (.cells (Qi [exA,exB]) 58 false):=by rw[Qd,Lc rfl]
 have hx56:=(Ext.refl H5).push (.cells (Qi [exA,exB]) 58 false);have hw6:=hw5.push (.cells (Qi [exA,exB]) 58 false);have e6:H5.push (.cells [.int .i64 1,.int .i64 4,.int .i64 0,.int .i64 0,.int .i64 0,.int .i64 0,.int .i64 0,.int .i64 0,.int .i64 0,.int .i64 0,.int .i64 0,.int .i64 3,.int .i64 0,.int .i64 0,.int .i64 0,.int .i64 0,.int .i64 0,.int .i64 0,.int .i64 0,.int .i64 0,.int .i64 0,.int .i64 5] 58 false)=H5.push (.cells (Qi [exA,exB]) 58 false):=rfl;rw[e6];clear e6;generalize H5.push (.cells (Qi [exA,exB]) 58 false)=H6 at *;have l5:=hw6.lt g65;refine(Qs7 1 _ _ _ H6).thenW ?_;rintro _ H7 hn7 hw7 ⟨rfl,hx67⟩;have e7:H7.push (.cells [.int .u8 131,.int .u8 192,.int .u8 5] 5 false)=H7.push (.cells (bys [131,192,5]) 5 false):=rfl;simp only[Qb,simprocAttr,e7];clear e7;have hg8:=Qv8 H7 [131,192,5];have hx78:=(Ext.refl H7).push (.cells (bys [131,192,5]) 5 false);have hw8:=hw7.push (.cells (bys [131,192,5]) 5 false);generalize H7.push (.cells (bys [131,192,5]) 5 false)=H8 at *;have hx08:=((hx0.trans hx5).trans hx56).trans (hx67.trans hx78);have gA:H8.get H5.next=some (.cells (Qi [exA,exB]) 58 false):=by rw[hx78.get _ (by have:=hx67.next;omega),hx67.get _ l5];exact g65
 have hbel:∀ (op:Int) (H':Qa) (b n c:Nat),b<H'.next->∀m,H'.next<=m->Qh m 6 (.agg #[.int .i64 op,.slice (some ⟨b,0,none⟩) n c])=true:=λop H' b n c hb m hm=>by
  simp[Qh,Ab.plain];omega
 have hi64:∀a∈[exA,exB],I64 a.n:=by intro a ha;simp only[LK,Ns,NN]at ha;rcases ha with rfl | rfl<;>(unfold I64;decide)
 have hi64c:∀a∈[exC],I64 a.n:=by intro a ha;simp only[LK,Ns,NN]at ha;subst ha;unfold I64;decide
 have lA:=hw8.lt gA;refine(Qs8 hT hO (l:=[exA,exB]) (hT _ _ hw hTH hx08) ⟨_,2,rfl,λ_=>⟨H5.next,_,_,rfl,gA⟩⟩ (hbel 1 H8 _ _ _ lA) (by decide) hi64 hg8 h1).thenW ?_;rintro _ H9 hn9 hw9 ⟨rfl,hx89⟩;have hx39:=(((hx34.trans hx45).trans hx56).trans (hx67.trans hx78)).trans hx89;have hx19:=(hx12.trans hx23).trans hx39;have hx09:=hx0.trans hx19;have g9:H9.get H2.next=some (.cells [.int .i64 54,.slice (some ⟨H.next,0,none⟩) 1 1] 24 false):=by rw[hx39.get _ (hw3.lt g3)];exact g3
 have gC:H9.get H.next=some (.cells (Qi [exC]) 58 false):=by rw[hx19.get _ l0];exact g0
 have l9:=hw9.lt g9;have e10:H9.push (.cells [.int .u8 235,.int .u8 5] 5 false)=H9.push (.cells (bys [235,5]) 5 false):=rfl;simp only[Qb,simprocAttr,g9,e10];clear e10;have hgx:=Qv8 H9 [235,5];have hx910:=(Ext.refl H9).push (.cells (bys [235,5]) 5 false);have hw10:=hw9.push (.cells (bys [235,5]) 5 false);generalize H9.push (.cells (bys [235,5]) 5 false)=H10 at *;have gC10:H10.get H.next=some (.cells (Qi [exC]) 58 false):=by rw[hx910.get _ (hw9.lt gC)];exact gC
 refine(Qs8 hT hO (l:=[exC]) (hT _ _ hw hTH (hx09.trans hx910)) ⟨_,1,rfl,λ_=>⟨H.next,_,_,rfl,gC10⟩⟩ (hbel 54 H10 _ _ _ (hw10.lt gC10)) (by decide) hi64c hgx h2).thenW ?_;rintro _ H11 hn11 hw11 ⟨rfl,hx1011⟩;have hx911:=hx910.trans hx1011;have g11:H11.get H2.next=some (.cells [.int .i64 54,.slice (some ⟨H.next,0,none⟩) 1 1] 24 false):=by rw[hx911.get _ l9];exact g9
 have gC11:H11.get H.next=some (.cells (Qi [exC]) 58 false):=by rw[hx911.get _ (hw9.lt gC)];exact gC
 have e12:H11.push (.cells [.int .u8 233,.int .u8 5,.int .u8 0,.int .u8 0,.int .u8 0] 5 false)=H11.push (.cells (bys [233,5,0,0,0]) 5 false):=rfl;simp only[Qb,simprocAttr,g11,e12];clear e12;have hgy:=Qv8 H11 [233,5,0,0,0];have hx1112:=(Ext.refl H11).push (.cells (bys [233,5,0,0,0]) 5 false);have hw12:=hw11.push (.cells (bys [233,5,0,0,0]) 5 false);generalize H11.push (.cells (bys [233,5,0,0,0]) 5 false)=H12 at *;have gC12:H12.get H.next=some (.cells (Qi [exC]) 58 false):=by rw[hx1112.get _ (hw11.lt gC11)];exact gC11
 have hx012:=(hx09.trans hx911).trans hx1112;refine(Qs8 hT hO (l:=[exC]) (hT _ _ hw hTH hx012) ⟨_,1,rfl,λ_=>⟨H.next,_,_,rfl,gC12⟩⟩ (hbel 54 H12 _ _ _ (hw12.lt gC12)) (by decide) hi64c hgy h3).thenW ?_;rintro _ H13 hn13 hw13 ⟨rfl,hx1213⟩;simp only[Qb,simprocAttr];refine(Qs7 50 none 0 0 H13).thenW ?_;rintro _ H14 hn14 hw14 ⟨rfl,hx1314⟩;have hx014:=(hx012.trans hx1213).trans hx1314;simp only[Qb,simprocAttr];refine(QzV hT hO (l:=[]) (hT _ _ hw hTH hx014) ⟨none,0,rfl,λh=>absurd h (NX 0)⟩ (λm hm=>by simp[Qh,Ab.plain]) (by decide) (λa ha=>by cases ha) h4).thenW ?_;rintro _ H15 hn15 hw15 ⟨rfl,hx1415⟩;have hx015:=hx014.trans hx1415;rw[hW];simp only[Qb,simprocAttr,QhC];exact .mk hx015.next ⟨rfl,hx015⟩
end
end Go.Proofs.YtgepgbbjfhggfaaGreatDoor.code
