/- What came in, made plain. -/
import Derived.Test.YtfofbicfabokbaaGreatDoorLibA
import Derived.Test.YtfofbicfabokbaaGreatDoorAbD
import Derived.Test.YtfofbicfabokbaaGreatDoorLibW
import Derived.ProofKit
import Derived.OpenShut
import Derived.ChangeOld
import Derived.Deep.Slices
import Derived.Test.YtfofbicfabokbaaGreatDoorLibT
set_option linter.unusedVariables false
set_option linter.unusedSimpArgs false
set_option maxRecDepth 100000
namespace Go.Proofs.YtfofbicfabokbaaGreatDoor.code
open Go.Ab Go.ChangeShapes Go.WideShapes Go.ChangeAt Go.RowKit
theorem QCv {z:Int} (h:(Lit.int .u8 z).wf=true):0<=z∧z<256:=by
 have:=bounds_u8 h;omega
theorem QEC:QfS (Wv prog.globals.size tab.tabs):=λid b h=>by
 obtain⟨t,_,_,rfl⟩:=Y8 h;rfl
def QpX (W:World) (v:Value):Prop:=v=.slice none 0 0∨∃a len cap,∃l:List Int,v=.slice (some a) len cap∧len<=cap∧cap<UNK∧l.length=len∧Qnr l∧(0<len->a.block<W.heap.size)∧∀ (j:Nat) b,l[j]? = some b->W.cell? (a.add j)=some (.int .u8 b)
theorem QED {H:Type} {enc:TypeId×Value->H} {W:World} {fuel tb te:Nat} {v:Value} {x:DataW H×List MemPlace} (hs:prog.underlying tb=some (.slice te)) (he:prog.underlying te=some (.int .u8)) (hc1:prog.cellsOf te=1)
  (h:DataW.trod enc prog W 0 (λ_=>true) true fuel tb v.cells.toList=some x) (hv:∃a len cap,v=.slice a len cap):QpX W v:=by
 obtain⟨a0,len0,cap0,rfl⟩:=hv;rcases Deep.open_slice hs h with⟨hcs,_⟩ | ⟨a,len,cap,m,n,D,Pl,hcs,_,hlc,hcm,hm,_,hel⟩
 ·left;simpa[Value.cells] using hcs
 ·right;have hv:Value.slice a0 len0 cap0=.slice (some a) len cap:=by simpa[Value.cells] using hcs
  have hm:m=cap:=by simpa using hm
  have hex:∀i,i<len->∃z:Int,(0<=z∧z<=255)∧W.cell? (a.add i)=some (.int .u8 z):=λi hi=>by
   obtain⟨cs',hc,ht⟩:=hel i (by omega);obtain⟨z,hz,_,hw⟩:=BT he ht;rw[hc1,NH]at hc;obtain⟨_,hg⟩:=Qsx hc;have h0:=hg 0 (by decide);rw[GG,N9]at h0;have hb:=QCv hw;refine⟨z,by omega,?_⟩;rw[h0,hz];rfl
  obtain⟨f,hf⟩:=Deep.choose_lt hex;refine⟨a,len,cap,(List.range len).map f,hv,hlc,by unfold maxLen at hcm;unfold UNK;omega,by simp,λp hp=>?_,λhlen=>?_,λj u hj=>?_⟩
  ·obtain⟨i,hi,rfl⟩:=N4.1 hp;exact(hf i (LU.1 hi)).1
  ·have:=(hf 0 hlen).2;have:=ND W _ this;rwa [Ab.block_add]at this
  ·rw[LD]at hj;obtain⟨y,hy,rfl⟩:=Lx.1 hj;have hlt:=(Lk.1 hy).1;rw[DB (by simpa using hlt)]at hy;cases hy;exact(hf j (by simpa using hlt)).2
theorem QGN {W:World} {v:Value} {ρ0:Ren} {H0:Qa} (hs:Sim prog ρ0 H0 W) (hw:H0.Wf) (hro:QfS H0) (h:QpX W v):
  ∃ (l:List Int) (u:Value) (ρ:Ren) (H:Qa),Qnr l∧Sim prog ρ H W∧H.Wf∧QfS H∧Ext H0 H∧V ρ u v∧QtG H u l∧∃a cap,u=.slice a l.length cap∧l.length<=cap∧cap<UNK:=by
 rcases h with rfl | ⟨a,len,cap,l,rfl,hlc,hcu,rfl,hok,hlt,hc⟩
 ·exact⟨[],.slice none 0 0,ρ0,H0,λp hp=>by simp at hp,hs,hw,hro,.refl _,.same _ rfl,⟨none,0,rfl,λh=>absurd h (NX 0)⟩,none,0,rfl,Lb _,by unfold UNK;omega⟩
 ·by_cases hl:0<l.length
  ·refine⟨l,.slice (some ⟨H0.next,0,none⟩) l.length cap,_,H0.push (.cells (l.map λb=>.int .u8 b) 5 true),hok,hs.addRo hro 5 (hlt hl) (λj u hj=>?_),hw.push _,hro.push _ _,(Ext.refl H0).push _,V.sliceIn (WU _ _ _) hlc hcu,⟨_,_,rfl,λ_=>?_⟩,_,_,rfl,hlc,hcu⟩
   ·rw[LD]at hj;obtain⟨y,hy,rfl⟩:=Lx.1 hj;exact⟨_,hc j y hy,.same _ rfl⟩
   ·refine⟨H0.next,0,_,5,true,rfl,by rw[Qi,Lc rfl],λi hi=>?_⟩;rw[LP,LD,La hi];simp[La hi]
  ·refine⟨l,.slice (some ⟨H0.next,0,none⟩) l.length cap,_,H0.up (H0.next+1),hok,hs.addDead hw a,hw.up (by omega),hro.up _,(Ext.refl H0).up (by omega),V.sliceIn (WU _ _ _) hlc hcu,⟨_,_,rfl,λh=>absurd h hl⟩,_,_,rfl,hlc,hcu⟩
def Qz9 (W:World) (v:Value) (n:Nat) (cs:List Value):Prop:=(v=.slice none 0 0∧n=0∧cs=[])∨∃a cap,v=.slice (some a) n cap∧n<=cap∧cap<UNK∧(n=0->cs=[])∧(0<n->a.block<W.heap.size)∧∀ (j:Nat) u,cs[j]? = some u->W.cell? (a.add j)=some u
theorem QsQ {α:Type} {g:α->List Value} {w:Nat} (hw:0<w) (hg:∀x,(g x).length=w):∀ (l:List α) (j:Nat) (u:Value),(l.flatMap g)[j]? = some u->∃x,l[j / w]? = some x∧(g x)[j % w]? = some u
 | [],j,u,h=>by simp at h
 | a::l,j,u,h=>by
  rw[Ba]at h
  by_cases hj:j<w
  ·rw[LY (by rw[hg];exact hj)]at h;rw[FL hj,RA hj];exact⟨a,rfl,h⟩
  ·rw[LR (by rw[hg];omega),hg]at h;obtain⟨x,h1,h2⟩:=QsQ hw hg l (j - w) u h;refine⟨x,?_,?_⟩
   ·rw[Nat.div_eq_sub_div hw (by omega),Bg];exact h1
   ·rw[Nat.mod_eq_sub_mod (by omega)];exact h2
theorem QGO {α:Type} {g:α->List Value} {Q:α->Prop} {w:Nat} (hw:0<w) (hgw:∀x,(g x).length=w) {H:Type} {enc:TypeId×Value->H} {W:World} {base:Nat} {spare:Nat->Bool} {held:Bool} {fuel tsl te:Nat} {cs:List Value} {x:DataW H×List MemPlace} (hs:prog.underlying tsl=some (.slice te)) (hcw:prog.cellsOf te=w)
  (hone:∀ (n:Nat) (cs:List Value) (x:DataW H×List MemPlace),DataW.trod enc prog W base spare held n te cs=some x->∃y:α,cs=g y∧Q y)
  (h:DataW.trod enc prog W base spare held fuel tsl cs=some x):∃ (v:Value) (l:List α),cs=[v]∧Qz9 W v l.length (l.flatMap g)∧∀y∈l,Q y:=by
 rcases Deep.open_slice hs h with⟨hcs,_⟩ | ⟨a,len,cap,m,n,D,Pl,hcs,_,hlc,hcm,hm,_,hel⟩
 ·exact⟨.slice none 0 0,[],hcs,.inl ⟨rfl,rfl,rfl⟩,λy hy=>by simp at hy⟩
 ·have hlm:len<=m:=by rw[hm];split<;>omega
  have hex:∀i,i<len->∃y:α,Q y∧∀j,j<w->W.cell? (a.add (i * w+j))=(g y)[j]? := λi hi=>by
   obtain⟨cs',hc,hr⟩:=hel i (by omega);obtain⟨y,rfl,hq⟩:=hone _ _ _ hr;rw[hcw]at hc;obtain⟨_,hg⟩:=Qsx hc;exact⟨y,hq,λj hj=>by rw[<- hg j hj,GG]⟩
  by_cases h0:len=0
  ·exact⟨_,[],hcs,.inr ⟨a,cap,by rw[h0];rfl,L7 _,by unfold maxLen at hcm;unfold UNK;omega,λ_=>rfl,λh=>absurd h (NX 0),λj u hj=>by simp at hj⟩,λy hy=>by simp at hy⟩
  ·obtain⟨y0,_⟩:=hex 0 (by omega);have:Inhabited α:=⟨y0⟩;obtain⟨f,hf⟩:=Deep.choose_lt hex;have hlen:((List.range len).map f).length=len:=by simp
   refine⟨_,(List.range len).map f,hcs,.inr ⟨a,cap,by rw[hlen],by rw[hlen];exact hlc,by unfold maxLen at hcm;unfold UNK;omega,λh=>by rw[hlen]at h;omega,λ_=>?_,λj u hj=>?_⟩,λy hy=>?_⟩
   ·have h1:=(hf 0 (by omega)).2 0 hw;cases hg:(g (f 0))[0]? with
    | none=>rw[Db,hgw]at hg;omega
    | some u=>
     rw[hg]at h1;have:=ND W _ h1;rwa [Ab.block_add]at this
   ·obtain⟨y,e1,e2⟩:=QsQ hw hgw _ j u hj;rw[LD]at e1;obtain⟨i,hi,rfl⟩:=Lx.1 e1;have hlt:=(Lk.1 hi).1;rw[DB (by simpa using hlt)]at hi;cases hi;have:=(hf (j / w) (by simpa using hlt)).2 (j % w) (Rm _ hw);rw[show j / w * w+j % w=j by rw[Hv];exact Nat.div_add_mod j w,e2]at this;exact this
   ·obtain⟨i,hi,rfl⟩:=N4.1 hy;exact(hf i (LU.1 hi)).1
theorem QAa (l:List Int):l.flatMap (λz=>[Value.int .i64 z])=ints l:=by
 unfold ints
 induction l with
 | nil=>rfl
 | cons a l ih=>rw[Ba,ih];rfl
theorem QtW {H:Type} {enc:TypeId×Value->H} {W:World} {base:Nat} {spare:Nat->Bool} {held:Bool} {fuel ti ts:Nat} {cs:List Value} {x:DataW H×List MemPlace} (hi:prog.underlying ti=some (.int .i64)) (hi1:prog.cellsOf ti=1) (hs:prog.underlying ts=some (.slice ti)) (h:DataW.trod enc prog W base spare held fuel ts cs=some x):
  ∃ (v:Value) (l:List Int),cs=[v]∧Qz9 W v l.length (ints l):=by
 obtain⟨v,l,e,hr,_⟩:=QGO (g:=λz:Int=>[Value.int .i64 z]) (Q:=λ_=>True) (w:=1) (by decide) (λ_=>rfl) hs hi1 (λn cs x h=>by
  obtain⟨z,hz,_⟩:=BT hi h;exact⟨z,hz,trivial⟩) h
 rw[QAa]at hr;exact⟨v,l,e,hr⟩
end Go.Proofs.YtfofbicfabokbaaGreatDoor.code
