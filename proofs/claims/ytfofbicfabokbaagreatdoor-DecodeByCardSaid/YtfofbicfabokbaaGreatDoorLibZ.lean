/- What came in, made plain. -/
import Derived.Test.YtfofbicfabokbaaGreatDoorLibA
import Derived.Test.YtfofbicfabokbaaGreatDoorAbD
import Derived.Test.YtfofbicfabokbaaGreatDoorS1Laid
import Derived.ProofKit
import Derived.OpenShut
import Derived.ChangeOld
import Derived.Deep.Slices
import Derived.Test.YtfofbicfabokbaaGreatDoorLibT
set_option linter.unusedVariables false
set_option linter.unusedSimpArgs false
set_option maxRecDepth 100000
namespace Go.Proofs.YtfofbicfabokbaaGreatDoor.code
open Go.Ab Go.ChangeShapes Go.WideShapes Go.ChangeAt Go.RowKit
theorem QCv {z:Int} (h:(Lit.int .u8 z).wf=true):0<=z∧z<256:=by
 have:=bounds_u8 h;omega
theorem QEC:QfS (Wv prog.globals.size tab.tabs):=λid b h=>by
 obtain⟨t,_,_,rfl⟩:=Y8 h;rfl
def QpX (W:World) (v:Value):Prop:=v=.slice none 0 0∨∃a len cap,∃l:List Int,v=.slice (some a) len cap∧len<=cap∧cap<UNK∧l.length=len∧Qnr l∧(0<len->a.block<W.heap.size)∧∀ (j:Nat) b,l[j]? = some b->W.cell? (a.add j)=some (.int .u8 b)
theorem QED {H:Type} {enc:TypeId×Value->H} {W:World} {fuel tb te:Nat} {v:Value} {x:DataW H×List MemPlace} (hs:prog.underlying tb=some (.slice te)) (he:prog.underlying te=some (.int .u8)) (hc1:prog.cellsOf te=1)
  (h:DataW.trod enc prog W 0 (λ_=>true) true fuel tb v.cells.toList=some x) (hv:∃a len cap,v=.slice a len cap):QpX W v:=by
 obtain⟨a0,len0,cap0,rfl⟩:=hv;rcases Deep.open_slice hs h with⟨hcs,_⟩ | ⟨a,len,cap,m,n,D,Pl,hcs,_,hlc,hcm,hm,_,hel⟩
 ·left;simpa[Value.cells] using hcs
 ·right;have hv:Value.slice a0 len0 cap0=.slice (some a) len cap:=by simpa[Value.cells] using hcs
  have hm:m=cap:=by simpa using hm
  have hex:∀i,i<len->∃z:Int,(0<=z∧z<=255)∧W.cell? (a.add i)=some (.int .u8 z):=λi hi=>by
   obtain⟨cs',hc,ht⟩:=hel i (by omega);obtain⟨z,hz,_,hw⟩:=BT he ht;rw[hc1,NH]at hc;obtain⟨_,hg⟩:=Qsx hc;have h0:=hg 0 (by decide);rw[GG,N9]at h0;have hb:=QCv hw;refine⟨z,by omega,?_⟩;rw[h0,hz];rfl
  obtain⟨f,hf⟩:=Deep.choose_lt hex;refine⟨a,len,cap,(List.range len).map f,hv,hlc,by unfold maxLen at hcm;unfold UNK;omega,by simp,λp hp=>?_,λhlen=>?_,λj u hj=>?_⟩
  ·obtain⟨i,hi,rfl⟩:=N4.1 hp;exact(hf i (LU.1 hi)).1
  ·have:=(hf 0 hlen).2;have:=ND W _ this;rwa [Ab.block_add]at this
  ·rw[LD]at hj;obtain⟨y,hy,rfl⟩:=Lx.1 hj;have hlt:=(Lk.1 hy).1;rw[DB (by simpa using hlt)]at hy;cases hy;exact(hf j (by simpa using hlt)).2
theorem QGN {W:World} {v:Value} {ρ0:Ren} {H0:Qa} (hs:Sim prog ρ0 H0 W) (hw:H0.Wf) (hro:QfS H0) (h:QpX W v):
  ∃ (l:List Int) (u:Value) (ρ:Ren) (H:Qa),Qnr l∧Sim prog ρ H W∧H.Wf∧QfS H∧Ext H0 H∧V ρ u v∧QtG H u l∧∃a cap,u=.slice a l.length cap∧l.length<=cap∧cap<UNK:=by
 rcases h with rfl | ⟨a,len,cap,l,rfl,hlc,hcu,rfl,hok,hlt,hc⟩
 ·exact⟨[],.slice none 0 0,ρ0,H0,λp hp=>by simp at hp,hs,hw,hro,.refl _,.same _ rfl,⟨none,0,rfl,λh=>absurd h (NX 0)⟩,none,0,rfl,Lb _,by unfold UNK;omega⟩
 ·by_cases hl:0<l.length
  ·refine⟨l,.slice (some ⟨H0.next,0,none⟩) l.length cap,_,H0.push (.cells (l.map λb=>.int .u8 b) 5 true),hok,hs.addRo hro 5 (hlt hl) (λj u hj=>?_),hw.push _,hro.push _ _,(Ext.refl H0).push _,V.sliceIn (WU _ _ _) hlc hcu,⟨_,_,rfl,λ_=>?_⟩,_,_,rfl,hlc,hcu⟩
   ·rw[LD]at hj;obtain⟨y,hy,rfl⟩:=Lx.1 hj;exact⟨_,hc j y hy,.same _ rfl⟩
   ·refine⟨H0.next,0,_,5,true,rfl,by rw[Qi,Lc rfl],λi hi=>?_⟩;rw[LP,LD,La hi];simp[La hi]
  ·refine⟨l,.slice (some ⟨H0.next,0,none⟩) l.length cap,_,H0.up (H0.next+1),hok,hs.addDead hw a,hw.up (by omega),hro.up _,(Ext.refl H0).up (by omega),V.sliceIn (WU _ _ _) hlc hcu,⟨_,_,rfl,λh=>absurd h hl⟩,_,_,rfl,hlc,hcu⟩
def Qz9 (W:World) (v:Value) (n:Nat) (cs:List Value):Prop:=(v=.slice none 0 0∧n=0∧cs=[])∨∃a cap,v=.slice (some a) n cap∧n<=cap∧cap<UNK∧(n=0->cs=[])∧(0<n->a.block<W.heap.size)∧∀ (j:Nat) u,cs[j]? = some u->W.cell? (a.add j)=some u
theorem QEW {W:World} {v:Value} {n:Nat} {cs:List Value} {ρ0:Ren} {H0:Qa} (te:Nat) (hp:∀u∈cs,Ab.plain u=true) (hs:Sim prog ρ0 H0 W) (hw:H0.Wf) (hro:QfS H0) (h:Qz9 W v n cs):
  ∃ (u:Value) (ρ:Ren) (H:Qa),Sub ρ0 ρ∧Sim prog ρ H W∧H.Wf∧QfS H∧Ext H0 H∧V ρ u v∧ZA H u n cs∧∀a m c,u=.slice (some a) m c->a.block<H.next:=by
 have hsub:∀i,Sub ρ0 (ext ρ0 H0.next i):=λi=>Qgs i hs.none_next;rcases h with⟨rfl,rfl,rfl⟩ | ⟨a,cap,rfl,hlc,hcu,hn0,hlt,hc⟩
 ·exact⟨.slice none 0 0,ρ0,H0,λ_ _ h=>h,hs,hw,hro,.refl _,.same _ rfl,⟨none,0,rfl,λh=>absurd h (NX 0)⟩,λa m c h=>by cases h⟩
 ·by_cases hl:0<n
  ·exact⟨.slice (some ⟨H0.next,0,none⟩) n cap,_,H0.push (.cells cs te true),hsub _,hs.addRo hro te (hlt hl) (λj u hj=>⟨_,hc j u hj,.same u (hp u (Ln hj))⟩),hw.push _,hro.push _ _,(Ext.refl H0).push _,V.sliceIn (WU _ _ _) hlc hcu,⟨_,_,rfl,λ_=>⟨H0.next,te,true,rfl,by rw[Qi,Lc rfl]⟩⟩,λa m c h=>by cases h;exact Rq _⟩
  ·exact⟨.slice (some ⟨H0.next,0,none⟩) n cap,_,H0.up (H0.next+1),hsub _,hs.addDead hw a,hw.up (by omega),hro.up _,(Ext.refl H0).up (by omega),V.sliceIn (WU _ _ _) hlc hcu,⟨_,_,rfl,λh=>absurd h hl⟩,λa m c h=>by cases h;exact Rq _⟩
theorem QsQ {α:Type} {g:α->List Value} {w:Nat} (hw:0<w) (hg:∀x,(g x).length=w):∀ (l:List α) (j:Nat) (u:Value),(l.flatMap g)[j]? = some u->∃x,l[j / w]? = some x∧(g x)[j % w]? = some u
 | [],j,u,h=>by simp at h
 | a::l,j,u,h=>by
  rw[Ba]at h
  by_cases hj:j<w
  ·rw[LY (by rw[hg];exact hj)]at h;rw[FL hj,RA hj];exact⟨a,rfl,h⟩
  ·rw[LR (by rw[hg];omega),hg]at h;obtain⟨x,h1,h2⟩:=QsQ hw hg l (j - w) u h;refine⟨x,?_,?_⟩
   ·rw[Nat.div_eq_sub_div hw (by omega),Bg];exact h1
   ·rw[Nat.mod_eq_sub_mod (by omega)];exact h2
theorem QGO {α:Type} {g:α->List Value} {Q:α->Prop} {w:Nat} (hw:0<w) (hgw:∀x,(g x).length=w) {H:Type} {enc:TypeId×Value->H} {W:World} {base:Nat} {spare:Nat->Bool} {held:Bool} {fuel tsl te:Nat} {cs:List Value} {x:DataW H×List MemPlace} (hs:prog.underlying tsl=some (.slice te)) (hcw:prog.cellsOf te=w)
  (hone:∀ (n:Nat) (cs:List Value) (x:DataW H×List MemPlace),DataW.trod enc prog W base spare held n te cs=some x->∃y:α,cs=g y∧Q y)
  (h:DataW.trod enc prog W base spare held fuel tsl cs=some x):∃ (v:Value) (l:List α),cs=[v]∧Qz9 W v l.length (l.flatMap g)∧∀y∈l,Q y:=by
 rcases Deep.open_slice hs h with⟨hcs,_⟩ | ⟨a,len,cap,m,n,D,Pl,hcs,_,hlc,hcm,hm,_,hel⟩
 ·exact⟨.slice none 0 0,[],hcs,.inl ⟨rfl,rfl,rfl⟩,λy hy=>by simp at hy⟩
 ·have hlm:len<=m:=by rw[hm];split<;>omega
  have hex:∀i,i<len->∃y:α,Q y∧∀j,j<w->W.cell? (a.add (i * w+j))=(g y)[j]? := λi hi=>by
   obtain⟨cs',hc,hr⟩:=hel i (by omega);obtain⟨y,rfl,hq⟩:=hone _ _ _ hr;rw[hcw]at hc;obtain⟨_,hg⟩:=Qsx hc;exact⟨y,hq,λj hj=>by rw[<- hg j hj,GG]⟩
  by_cases h0:len=0
  ·exact⟨_,[],hcs,.inr ⟨a,cap,by rw[h0];rfl,L7 _,by unfold maxLen at hcm;unfold UNK;omega,λ_=>rfl,λh=>absurd h (NX 0),λj u hj=>by simp at hj⟩,λy hy=>by simp at hy⟩
  ·obtain⟨y0,_⟩:=hex 0 (by omega);have:Inhabited α:=⟨y0⟩;obtain⟨f,hf⟩:=Deep.choose_lt hex;have hlen:((List.range len).map f).length=len:=by simp
   refine⟨_,(List.range len).map f,hcs,.inr ⟨a,cap,by rw[hlen],by rw[hlen];exact hlc,by unfold maxLen at hcm;unfold UNK;omega,λh=>by rw[hlen]at h;omega,λ_=>?_,λj u hj=>?_⟩,λy hy=>?_⟩
   ·have h1:=(hf 0 (by omega)).2 0 hw;cases hg:(g (f 0))[0]? with
    | none=>rw[Db,hgw]at hg;omega
    | some u=>
     rw[hg]at h1;have:=ND W _ h1;rwa [Ab.block_add]at this
   ·obtain⟨y,e1,e2⟩:=QsQ hw hgw _ j u hj;rw[LD]at e1;obtain⟨i,hi,rfl⟩:=Lx.1 e1;have hlt:=(Lk.1 hi).1;rw[DB (by simpa using hlt)]at hi;cases hi;have:=(hf (j / w) (by simpa using hlt)).2 (j % w) (Rm _ hw);rw[show j / w * w+j % w=j by rw[Hv];exact Nat.div_add_mod j w,e2]at this;exact this
   ·obtain⟨i,hi,rfl⟩:=N4.1 hy;exact(hf i (LU.1 hi)).1
def QxM (W:World) (v:Value):Prop:=∃x:Lf,v=.agg x.cells.toArray∧Qz9 W x.sv x.f.shapes.length (ints x.f.shapes)∧Qz9 W x.tv x.f.slots.length (ints x.f.slots)
theorem QAa (l:List Int):l.flatMap (λz=>[Value.int .i64 z])=ints l:=by
 unfold ints
 induction l with
 | nil=>rfl
 | cons a l ih=>rw[Ba,ih];rfl
theorem QtW {H:Type} {enc:TypeId×Value->H} {W:World} {base:Nat} {spare:Nat->Bool} {held:Bool} {fuel ti ts:Nat} {cs:List Value} {x:DataW H×List MemPlace} (hi:prog.underlying ti=some (.int .i64)) (hi1:prog.cellsOf ti=1) (hs:prog.underlying ts=some (.slice ti)) (h:DataW.trod enc prog W base spare held fuel ts cs=some x):
  ∃ (v:Value) (l:List Int),cs=[v]∧Qz9 W v l.length (ints l):=by
 obtain⟨v,l,e,hr,_⟩:=QGO (g:=λz:Int=>[Value.int .i64 z]) (Q:=λ_=>True) (w:=1) (by decide) (λ_=>rfl) hs hi1 (λn cs x h=>by
  obtain⟨z,hz,_⟩:=BT hi h;exact⟨z,hz,trivial⟩) h
 rw[QAa]at hr;exact⟨v,l,e,hr⟩
theorem QGP {H:Type} {enc:TypeId×Value->H} {W:World} {base:Nat} {spare:Nat->Bool} {held:Bool} {v:Value} {d:DataW H} {p:List MemPlace} {ti ts tb tf:Nat} {fs:Array Field} (hi:prog.underlying ti=some (.int .i64)) (hi1:prog.cellsOf ti=1) (hs:prog.underlying ts=some (.slice ti)) (hs1:prog.cellsOf ts=1) (hb:prog.underlying tb=some .bool) (hb1:prog.cellsOf tb=1)
  (hf:prog.underlying tf=some (.struct fs)) (hf1:prog.cellsOf tf=10) (hfs:fs.size=10) (hfl:∀i,i<10->∃f,fs[i]? = some f∧f.offset=i∧f.type=if i=1∨i=2 then ts else if i=8 then tb else ti) (hv:∃cs,v=.agg cs) (h:∃n,DataW.trod enc prog W base spare held n tf v.cells.toList=some (d,p)):QxM W v:=by
 obtain⟨n,h⟩:=h;obtain⟨cs,rfl⟩:=hv;have hcs:(Value.agg cs).cells.toList=cs.toList:=rfl;rw[hcs]at h;obtain⟨xs,m,e,hx,hcl,hxl,hfd⟩:=RL hf h;rw[hf1]at hcl;rw[hfs]at hxl;have key:∀ (i:Nat) (t:Nat),i<10->t=(if i=1∨i=2 then ts else if i=8 then tb else ti)->∃y,DataW.trod enc prog W base spare held m t ((cs.toList.drop i).take 1)=some y:=λi t hi10 ht=>by
  obtain⟨f,g1,g2,g3⟩:=hfl i hi10;have r:=hfd i f g1;have h1:prog.cellsOf f.type=1:=by
   rw[g3];split
   ·exact hs1
   ·split
    ·exact hb1
    ·exact hi1
  rw[h1,g2,g3,<- ht,La (by omega)]at r;exact⟨_,r⟩
 have hc:cs=cs.toList.toArray:=by rw[RE]
 generalize cs.toList=l at hcl key hc;subst hc
 match l,hcl with
 | [c0,c1,c2,c3,c4,c5,c6,c7,c8,c9],_=>
  have num:∀ (i:Nat),i<10->(¬ (i=1∨i=2))->i≠8->∃z:Int,(([c0,c1,c2,c3,c4,c5,c6,c7,c8,c9]:List Value).drop i).take 1=[.int .i64 z]:=λi h1 h2 h3=>by
   obtain⟨y,hy⟩:=key i ti h1 (by rw[Le h2,Le h3]);obtain⟨z,hz,_⟩:=BT hi hy;exact⟨z,hz⟩
  have row:∀ (i:Nat),i=1∨i=2->∃ (v:Value) (l:List Int),(([c0,c1,c2,c3,c4,c5,c6,c7,c8,c9]:List Value).drop i).take 1=[v]∧Qz9 W v l.length (ints l):=λi h2=>by
   obtain⟨y,hy⟩:=key i ts (by omega) (by rw[Lc h2]);exact QtW hi hi1 hs hy
  obtain⟨z0,e0⟩:=num 0 (by decide) (by decide) (by decide);obtain⟨z3,e3⟩:=num 3 (by decide) (by decide) (by decide);obtain⟨z4,e4⟩:=num 4 (by decide) (by decide) (by decide);obtain⟨z5,e5⟩:=num 5 (by decide) (by decide) (by decide);obtain⟨z6,e6⟩:=num 6 (by decide) (by decide) (by decide);obtain⟨z7,e7⟩:=num 7 (by decide) (by decide) (by decide);obtain⟨z9,e9⟩:=num 9 (by decide) (by decide) (by decide);obtain⟨v1,l1,e1,r1⟩:=row 1 (by decide);obtain⟨v2,l2,e2,r2⟩:=row 2 (by decide);obtain⟨y8,h8⟩:=key 8 tb (by decide) rfl;obtain⟨b8,e8,_⟩:=DataW.trod_bool hb h8;have f0:=(Bf e0).1;have f1:=(Bf e1).1;have f2:=(Bf e2).1;have f3:=(Bf e3).1;have f4:=(Bf e4).1;have f5:=(Bf e5).1;have f6:=(Bf e6).1;have f7:=(Bf e7).1;have f8:=(Bf e8).1;have f9:=(Bf e9).1;subst f0 f1 f2 f3 f4 f5 f6 f7 f8 f9;exact⟨⟨⟨z0,z3,z4,z5,z6,z7,z9,b8,l1,l2⟩,c1,c2⟩,rfl,r1,r2⟩
theorem Qrw {l:List Int}:∀u∈ints l,Ab.plain u=true:=λu hu=>by
 unfold ints at hu;obtain⟨y,_,rfl⟩:=N4.1 hu;rfl
theorem QEE {W:World} {v w:Value} {ρ0:Ren} {H0:Qa} (hs:Sim prog ρ0 H0 W) (hw:H0.Wf) (hro:QfS H0) (hv:QxM W v) (h:QpX W w):
  ∃ (x:Lf) (l:List Int) (u:Value) (ρ:Ren) (H:Qa),Qnr l∧Sim prog ρ H W∧H.Wf∧QfS H∧Ext H0 H∧V ρ (.agg x.cells.toArray) v∧V ρ u w∧ZA H x.sv x.f.shapes.length (ints x.f.shapes)∧ZA H x.tv x.f.slots.length (ints x.f.slots)∧QtG H u l∧(∃a cap,u=.slice a l.length cap∧l.length<=cap∧cap<UNK)∧∀n,H.next<=n->Qs n 6 (.agg x.cells.toArray)=true:=by
 obtain⟨y,rfl,g1,g2⟩:=hv;obtain⟨l,u,ρ1,H1,b1,s1,w1,o1,x1,v1,a1,c1⟩:=QGN hs hw hro h;obtain⟨u2,ρ2,H2,sb2,s2,w2,o2,x2,v2,a2,bl2⟩:=QEW 3 Qrw s1 w1 o1 g1;obtain⟨u3,ρ3,H3,sb3,s3,w3,o3,x3,v3,a3,bl3⟩:=QEW 3 Qrw s2 w2 o2 g2;refine⟨⟨y.f,u2,u3⟩,l,u,ρ3,H3,b1,s3,w3,o3,x1.trans (x2.trans x3),?_,(v1.mono sb2).mono sb3,a2.ext w2 x3,a3,a1.ext w1 (x2.trans x3),c1,λn hn=>?_⟩
 ·refine .agg _ _ rfl λj a b ha hb=>?_;rcases j with _ | _ | _ | _ | _ | _ | _ | _ | _ | _ | j
  ·cases ha;cases hb;exact .same _ rfl
  ·cases ha;cases hb;exact v2.mono sb3
  ·cases ha;cases hb;exact v3
  ·cases ha;cases hb;exact .same _ rfl
  ·cases ha;cases hb;exact .same _ rfl
  ·cases ha;cases hb;exact .same _ rfl
  ·cases ha;cases hb;exact .same _ rfl
  ·cases ha;cases hb;exact .same _ rfl
  ·cases ha;cases hb;exact .same _ rfl
  ·cases ha;cases hb;exact .same _ rfl
  ·simp[Lf.cells]at ha
 ·have q2:Qs n 5 u2=true:=by
   obtain⟨a,c,rfl,_⟩:=a2;cases a with
   | none=>simp[Qs,Ab.plain]
   | some a=>
    have:=bl2 _ _ _ rfl;have:=x3.next;simp[Qs,Ab.plain];omega
  have q3:Qs n 5 u3=true:=by
   obtain⟨a,c,rfl,_⟩:=a3;cases a with
   | none=>simp[Qs,Ab.plain]
   | some a=>
    have:=bl3 _ _ _ rfl;simp[Qs,Ab.plain];omega
  show(Lf.cells _).toArray.all (Qs n 5)=true;refine B1.2 λv hv=>?_;simp only[Lf.cells,List.mem_toArray,LK,Ns,NN]at hv;rcases hv with rfl | rfl | rfl | rfl | rfl | rfl | rfl | rfl | rfl | rfl<;>first
   | exact q2
   | exact q3
   | rfl
end Go.Proofs.YtfofbicfabokbaaGreatDoor.code
