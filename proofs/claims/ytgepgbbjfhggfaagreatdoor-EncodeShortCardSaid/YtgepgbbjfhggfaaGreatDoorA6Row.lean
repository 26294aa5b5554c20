/- Rows that came in. -/
import Derived.Test.YtgepgbbjfhggfaaGreatDoorA0Args
set_option linter.unusedVariables false
set_option linter.unusedSimpArgs false
set_option maxRecDepth 100000
namespace Go.Proofs.YtgepgbbjfhggfaaGreatDoor.code
open Go.Ab Go.ChangeShapes Go.WideShapes Go.ChangeAt Go.RowKit
def QH8 (W:World)(v:Value)(n:Nat)(cs:List Value):Prop:=(v=.slice none 0 0∧n=0∧cs=[])∨∃a cap,v=.slice (some a) n cap∧n<=cap∧cap<UNK∧(n=0->cs=[])∧(0<n->a.block<W.heap.size)∧∀ (j:Nat) u,cs[j]? = some u->W.cell? (a.add j)=some u
theorem QJs {W:World}{v:Value}{n:Nat}{cs:List Value}{ρ0:Ren}{H0:Qa}(te:Nat)(hp:∀u∈cs,Ab.plain u=true)(hs:Sim prog ρ0 H0 W)(hw:H0.Wf)(hro:QgP H0)(h:QH8 W v n cs):
  ∃ (u:Value) (ρ:Ren) (H:Qa),Sub ρ0 ρ∧Sim prog ρ H W∧H.Wf∧QgP H∧Ext H0 H∧V ρ u v∧Qdw H u n cs∧∀a m c,u=.slice (some a) m c->a.block<H.next:=by
 have hsub:∀i,Sub ρ0 (ext ρ0 H0.next i):=λi=>Qfa i hs.none_next;rcases h with⟨rfl,rfl,rfl⟩ | ⟨a,cap,rfl,hlc,hcu,hn0,hlt,hc⟩
 ·exact⟨.slice none 0 0,ρ0,H0,λ_ _ h=>h,hs,hw,hro,.refl _,.same _ rfl,⟨none,0,rfl,λh=>absurd h (NX 0)⟩,λa m c h=>by cases h⟩
 ·by_cases hl:0<n
  ·exact⟨.slice (some ⟨H0.next,0,none⟩) n cap,_,H0.push (.cells cs te true),hsub _,hs.addRo hro te (hlt hl) (λj u hj=>⟨_,hc j u hj,.same u (hp u (Ln hj))⟩),hw.push _,hro.push _ _,(Ext.refl H0).push _,V.sliceIn (W9 _ _ _) hlc hcu,⟨_,_,rfl,λ_=>⟨H0.next,te,true,rfl,by rw[Qd,Lc rfl]⟩⟩,λa m c h=>by cases h;exact Rq _⟩
  ·exact⟨.slice (some ⟨H0.next,0,none⟩) n cap,_,H0.up (H0.next+1),hsub _,hs.addDead hw a,hw.up (by omega),hro.up _,(Ext.refl H0).up (by omega),V.sliceIn (W9 _ _ _) hlc hcu,⟨_,_,rfl,λh=>absurd h hl⟩,λa m c h=>by cases h;exact Rq _⟩
theorem QuU {α:Type}{g:α->List Value}{w:Nat}(hw:0<w)(hg:∀x,(g x).length=w):∀ (l:List α) (j:Nat) (u:Value),(l.flatMap g)[j]? = some u->∃x,l[j / w]? = some x∧(g x)[j % w]? = some u
 | [],j,u,h=>by simp at h
 | a::l,j,u,h=>by
  rw[Ba]at h
  by_cases hj:j<w
  ·rw[LY (by rw[hg];exact hj)]at h;rw[FL hj,RA hj];exact⟨a,rfl,h⟩
  ·rw[LR (by rw[hg];omega),hg]at h;obtain⟨x,h1,h2⟩:=QuU hw hg l (j - w) u h;refine⟨x,?_,?_⟩
   ·rw[Nat.div_eq_sub_div hw (by omega),Bg];exact h1
   ·rw[Nat.mod_eq_sub_mod (by omega)];exact h2
theorem QH9 {α:Type}{g:α->List Value}{Q:α->Prop}{w:Nat}(hw:0<w)(hgw:∀x,(g x).length=w){H:Type}{enc:TypeId×Value->H}{W:World}{base:Nat}{spare:Nat->Bool}{held:Bool}{fuel tsl te:Nat}{cs:List Value}{x:DataW H×List MemPlace}(hs:prog.underlying tsl=some (.slice te))(hcw:prog.cellsOf te=w)
  (hone:∀ (n:Nat) (cs:List Value) (x:DataW H×List MemPlace),DataW.trod enc prog W base spare held n te cs=some x->∃y:α,cs=g y∧Q y)
  (h:DataW.trod enc prog W base spare held fuel tsl cs=some x):∃ (v:Value) (l:List α),cs=[v]∧QH8 W v l.length (l.flatMap g)∧∀y∈l,Q y:=by
 rcases Deep.open_slice hs h with⟨hcs,_⟩ | ⟨a,len,cap,m,n,D,Pl,hcs,_,hlc,hcm,hm,_,hel⟩
 ·exact⟨.slice none 0 0,[],hcs,.inl ⟨rfl,rfl,rfl⟩,λy hy=>by simp at hy⟩
 ·have hlm:len<=m:=by rw[hm];split<;>omega
  have hex:∀i,i<len->∃y:α,Q y∧∀j,j<w->W.cell? (a.add (i * w+j))=(g y)[j]? := λi hi=>by
   obtain⟨cs',hc,hr⟩:=hel i (by omega);obtain⟨y,rfl,hq⟩:=hone _ _ _ hr;rw[hcw]at hc;obtain⟨_,hg⟩:=QBT hc;exact⟨y,hq,λj hj=>by rw[<- hg j hj,Gi]⟩
  by_cases h0:len=0
  ·exact⟨_,[],hcs,.inr ⟨a,cap,by rw[h0];rfl,L7 _,by unfold maxLen at hcm;unfold UNK;omega,λ_=>rfl,λh=>absurd h (NX 0),λj u hj=>by simp at hj⟩,λy hy=>by simp at hy⟩
  ·obtain⟨y0,_⟩:=hex 0 (by omega);have:Inhabited α:=⟨y0⟩;obtain⟨f,hf⟩:=Deep.choose_lt hex;have hlen:((List.range len).map f).length=len:=by simp
   refine⟨_,(List.range len).map f,hcs,.inr ⟨a,cap,by rw[hlen],by rw[hlen];exact hlc,by unfold maxLen at hcm;unfold UNK;omega,λh=>by rw[hlen]at h;omega,λ_=>?_,λj u hj=>?_⟩,λy hy=>?_⟩
   ·have h1:=(hf 0 (by omega)).2 0 hw;cases hg:(g (f 0))[0]? with
    | none=>rw[Db,hgw]at hg;omega
    | some u=>
     rw[hg]at h1;have:=ND W _ h1;rwa [Ab.block_add]at this
   ·obtain⟨y,e1,e2⟩:=QuU hw hgw _ j u hj;rw[LD]at e1;obtain⟨i,hi,rfl⟩:=Lx.1 e1;have hlt:=(Lk.1 hi).1;rw[DB (by simpa using hlt)]at hi;cases hi;have:=(hf (j / w) (by simpa using hlt)).2 (j % w) (Rm _ hw);rw[show j / w * w+j % w=j by rw[Hv];exact Nat.div_add_mod j w,e2]at this;exact this
   ·obtain⟨i,hi,rfl⟩:=N4.1 hy;exact(hf i (LU.1 hi)).1
end Go.Proofs.YtgepgbbjfhggfaaGreatDoor.code
