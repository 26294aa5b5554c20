/- linotypekit.CopyInst. -/
import Derived.Test.YtgepgbbjfhggfaaGreatDoorLibI
import Derived.Test.YtgepgbbjfhggfaaGreatDoorLibG
set_option linter.unusedVariables false
set_option linter.unusedSimpArgs false
set_option maxRecDepth 100000
set_option maxHeartbeats 4000000
namespace Go.Proofs.YtgepgbbjfhggfaaGreatDoor.code
open Go.Ab
theorem QzR {op:Int}{sa:Option Addr}{n c m:Nat}(h:∀d,sa=some d->d.block<m):Qh m 6 (.agg #[.int .i64 op,.slice sa n c])=true:=by
 cases sa with
 | none=>simp[Qh,Ab.plain]
 | some d=>
  have:=h d rfl;simp[Qh,Ab.plain];omega
theorem QzS (op:Int)(v:Value)(l:List Ar)(H:Qa)(hv:Qv H v l)(hl:l.length<=1000):Qe prog 8 [.agg #[.int .i64 op,v]] H λu H'=>∃v',u=.agg #[.int .i64 op,v']∧Qv H' v' l∧(∀n,H'.next<=n->Qh n 6 (.agg #[.int .i64 op,v'])=true)∧Ext H H':=by
 refine Qgz λhw=>?_;obtain⟨a0,cap,rfl,h1⟩:=hv;simp(disch:=(first | omega | (simp only[hnP];try omega))) only[V2,Qk,simprocAttr]
 generalize hH1:Qa.push (Qa.push (Qa.push H _) _) _=H1;have hx1:Ext H H1:=by rw[<- hH1];exact(((Ext.refl H).push _).push _).push _
 have hn1:H1.next=H.next+3:=by rw[<- hH1];rfl
 have hw1:H1.Wf:=by rw[<- hH1];exact((hw.push _).push _).push _
 have g0:H1.get H.next=some (.cells [.int .i64 op,.slice a0 l.length cap] 24 false):=by rw[<- hH1,Qd,Le (by simp only[Qc];omega),Qd,Le (by simp only[Qc];omega),Qd,Lc rfl]
 have g1:H1.get (H.next+1)=some (.cells [.int .i64 0,.slice none 0 0] 24 false):=by rw[<- hH1,Qd,Le (by simp only[Qc];omega),Qd,Lc (by simp only[Qc])]
 have g2:H1.get (H.next+1+1)=some (.cells [] 58 false):=by rw[<- hH1,Qd,Lc (by simp only[Qc])]
 clear hH1
 -- what is left once the operands are copied
 have hfin:∀ (sa:Option Addr) (sc:Nat) (H2:Qa) (A:Env),H2.Wf->Ext H1 H2->Qv H2 (.slice sa l.length sc) l->(∀id,Qla (.slice sa l.length sc) id->H.next+1<id)->(∀d,sa=some d->d.block<H2.next)->A 1=.pointer (some ⟨H.next,0,none⟩)->A 2=.pointer (some ⟨H.next+1,0,none⟩)->
   QnJ prog [Ow 7 (.fldA 1 (t 1)),Ov (.st 1 (t 7) (t 6))] (Qm prog (.seq (.ops [Ow 8 (.ld true 2 (t 1)),Ov (.st 2 (t 2) (t 8))]) .ret) ⟨Rt prog Tryz.f8 H λu H'=>∃v',u=.agg #[.int .i64 op,v']∧Qv H' v' l∧(∀n,H'.next<=n->Qh n 6 (.agg #[.int .i64 op,v'])=true)∧Ext H H',WJ⟩ (Rt prog Tryz.f8 H λu H'=>∃v',u=.agg #[.int .i64 op,v']∧Qv H' v' l∧(∀n,H'.next<=n->Qh n 6 (.agg #[.int .i64 op,v'])=true)∧Ext H H')) A (some 6) (.slice sa l.length sc) H2:=by
  intro sa sc H2 A hw2 hx2 hv2 hlo hbe r1 r2;have k0:H2.get H.next=some (.cells [.int .i64 op,.slice a0 l.length cap] 24 false):=by rw[hx2.get _ (by omega)];exact g0
  have k1:H2.get (H.next+1)=some (.cells [.int .i64 0,.slice none 0 0] 24 false):=by rw[hx2.get _ (by omega)];exact g1
  simp(disch:=(first | omega | (simp only[hnP];try omega))) only[Qk,simprocAttr,r1,r2,k0,k1,Qf4]
  have hx3:∀b b',Ext H ((H2.set H.next b).set (H.next+1) b'):=λb b'=>((hx1.trans hx2).set (Lb _) _).set (by omega) _;refine .mk (hx3 _ _).next ⟨_,rfl,?_,λn hn=>QzR λd hd=>N5 (hbe d hd) hn,hx3 _ _⟩;obtain⟨a9,c9,e9,h9⟩:=hv2;refine⟨a9,c9,e9,λhp=>?_⟩;obtain⟨b,e,ro,rfl,h8⟩:=h9 hp;have hb:=hlo b ⟨0,l.length,c9,e9⟩;exact⟨b,e,ro,rfl,by rw[Qq,Le (by omega),Qq,Le (by omega)];exact h8⟩
 cases l with
 | nil=>
  have hr:∀H1:Qa,ZF 58 11 88 (.slice (some ⟨H.next+1+1,0,none⟩) 0 0) (.slice a0 0 cap) H1=some (.slice (some ⟨H.next+1+1,0,none⟩) 0 0,H1):=λH1=>by cases a0<;>simp[ZF,J4]
  simp only[L9]at hfin ⊢;unfold Qdr;rw[hr,QM];refine hfin _ _ H1 _ hw1 (.refl _) ⟨_,_,rfl,λh=>absurd h (NX 0)⟩ (λid ⟨o,n,c,h⟩=>by cases h;omega) (λd hd=>by cases hd;show H.next+1+1<_;omega) ?_ ?_
  all_goals simp only[Qg,simprocAttr]
 | cons a l=>
  obtain⟨b,e,ro,rfl,hb⟩:=h1 (by simp);have hbn:=hw.lt hb;have hlen:=QJ (a::l);have hn:J4 11 (.slice (some ⟨b,0,none⟩) (l.length+1) cap) H1=some (l.length+1,Qi (a::l)):=by
   rw[JI (c:=Qi (a::l)) (e:=e) (ro:=ro) (by rw[hx1.get _ hbn];exact hb) (by omega) (by rw[hlen,Lo];omega),Lw,LF (by rw[hlen,Lo];exact Lb _)]
  rw[Lo]at hl hfin;refine Qlo (c:=[]) (ro:=false) (e':=58) hn (Qnk _) (by omega) g2 (by simp) (by omega) (by omega) (by decide) (by omega) ?_;rw[LP];refine hfin _ _ (H1.push _) _ (hw1.push _) ((Ext.refl _).push _) ?_ ?_ (λd hd=>by cases hd;exact Rq _) ?_ ?_
  ·exact⟨_,_,rfl,λ_=>⟨_,_,_,rfl,by rw[Qd,Lc rfl];rfl⟩⟩
  ·rintro id ⟨o,n,c,h⟩;cases h;omega
  all_goals simp only[Qg,simprocAttr]
end Go.Proofs.YtgepgbbjfhggfaaGreatDoor.code
