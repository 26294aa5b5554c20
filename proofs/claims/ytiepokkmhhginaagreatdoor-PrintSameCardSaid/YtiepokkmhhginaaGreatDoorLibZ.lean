/- What came in, made plain. -/
import Derived.Test.YtiepokkmhhginaaGreatDoorLibA
import Derived.Test.YtiepokkmhhginaaGreatDoorAbD
import Derived.Test.YtiepokkmhhginaaGreatDoorS1Laid
import Derived.ProofKit
import Derived.OpenShut
import Derived.ChangeOld
import Derived.Deep.Slices
import Derived.Test.YtiepokkmhhginaaGreatDoorLibI
set_option linter.unusedVariables false
set_option linter.unusedSimpArgs false
set_option maxRecDepth 100000
namespace Go.Proofs.YtiepokkmhhginaaGreatDoor.code
open Go.Ab Go.ChangeShapes Go.WideShapes Go.ChangeAt Go.RowKit
theorem QlY {z:Int} (h:(Lit.int .i64 z).wf=true):I64 z:=by
 have:=bounds_i64 h;unfold I64;omega
theorem QC6:Qdv (Xc prog.globals.size tab.tabs):=λid b h=>by
 obtain⟨t,_,_,rfl⟩:=Ya h;rfl
def QEY (W:World) (v:Value) (n:Nat) (cs:List Value):Prop:=(v=.slice none 0 0∧n=0∧cs=[])∨∃a cap,v=.slice (some a) n cap∧n<=cap∧cap<UNK∧(n=0->cs=[])∧(0<n->a.block<W.heap.size)∧∀ (j:Nat) u,cs[j]? = some u->W.cell? (a.add j)=some u
theorem QF3 {W:World} {v:Value} {n:Nat} {cs:List Value} {ρ0:Ren} {H0:Qa} (te:Nat) (hp:∀u∈cs,Ab.plain u=true) (hs:Sim prog ρ0 H0 W) (hw:H0.Wf) (hro:Qdv H0) (h:QEY W v n cs):
  ∃ (u:Value) (ρ:Ren) (H:Qa),Sub ρ0 ρ∧Sim prog ρ H W∧H.Wf∧Qdv H∧Ext H0 H∧V ρ u v∧QbV H u n cs∧∀a m c,u=.slice (some a) m c->a.block<H.next:=by
 have hsub:∀i,Sub ρ0 (ext ρ0 H0.next i):=λi=>QbZ i hs.none_next;rcases h with⟨rfl,rfl,rfl⟩ | ⟨a,cap,rfl,hlc,hcu,hn0,hlt,hc⟩
 ·exact⟨.slice none 0 0,ρ0,H0,λ_ _ h=>h,hs,hw,hro,.refl _,.same _ rfl,⟨none,0,rfl,λh=>absurd h (NX 0)⟩,λa m c h=>by cases h⟩
 ·by_cases hl:0<n
  ·exact⟨.slice (some ⟨H0.next,0,none⟩) n cap,_,H0.push (.cells cs te true),hsub _,hs.addRo hro te (hlt hl) (λj u hj=>⟨_,hc j u hj,.same u (hp u (Ln hj))⟩),hw.push _,hro.push _ _,(Ext.refl H0).push _,V.sliceIn (Wr _ _ _) hlc hcu,⟨_,_,rfl,λ_=>⟨H0.next,te,true,rfl,by rw[Qd,Lc rfl]⟩⟩,λa m c h=>by cases h;exact Rq _⟩
  ·exact⟨.slice (some ⟨H0.next,0,none⟩) n cap,_,H0.up (H0.next+1),hsub _,hs.addDead hw a,hw.up (by omega),hro.up _,(Ext.refl H0).up (by omega),V.sliceIn (Wr _ _ _) hlc hcu,⟨_,_,rfl,λh=>absurd h hl⟩,λa m c h=>by cases h;exact Rq _⟩
theorem Qq9 {α:Type} {g:α->List Value} {w:Nat} (hw:0<w) (hg:∀x,(g x).length=w):∀ (l:List α) (j:Nat) (u:Value),(l.flatMap g)[j]? = some u->∃x,l[j / w]? = some x∧(g x)[j % w]? = some u
 | [],j,u,h=>by simp at h
 | a::l,j,u,h=>by
  rw[Ba]at h
  by_cases hj:j<w
  ·rw[LY (by rw[hg];exact hj)]at h;rw[FL hj,RA hj];exact⟨a,rfl,h⟩
  ·rw[LR (by rw[hg];omega),hg]at h;obtain⟨x,h1,h2⟩:=Qq9 hw hg l (j - w) u h;refine⟨x,?_,?_⟩
   ·rw[Nat.div_eq_sub_div hw (by omega),Bg];exact h1
   ·rw[Nat.mod_eq_sub_mod (by omega)];exact h2
theorem QEZ {α:Type} {g:α->List Value} {Q:α->Prop} {w:Nat} (hw:0<w) (hgw:∀x,(g x).length=w) {H:Type} {enc:TypeId×Value->H} {W:World} {base:Nat} {spare:Nat->Bool} {held:Bool} {fuel tsl te:Nat} {cs:List Value} {x:DataW H×List MemPlace} (hs:prog.underlying tsl=some (.slice te)) (hcw:prog.cellsOf te=w)
  (hone:∀ (n:Nat) (cs:List Value) (x:DataW H×List MemPlace),DataW.trod enc prog W base spare held n te cs=some x->∃y:α,cs=g y∧Q y)
  (h:DataW.trod enc prog W base spare held fuel tsl cs=some x):∃ (v:Value) (l:List α),cs=[v]∧QEY W v l.length (l.flatMap g)∧∀y∈l,Q y:=by
 rcases Deep.open_slice hs h with⟨hcs,_⟩ | ⟨a,len,cap,m,n,D,Pl,hcs,_,hlc,hcm,hm,_,hel⟩
 ·exact⟨.slice none 0 0,[],hcs,.inl ⟨rfl,rfl,rfl⟩,λy hy=>by simp at hy⟩
 ·have hlm:len<=m:=by rw[hm];split<;>omega
  have hex:∀i,i<len->∃y:α,Q y∧∀j,j<w->W.cell? (a.add (i * w+j))=(g y)[j]? := λi hi=>by
   obtain⟨cs',hc,hr⟩:=hel i (by omega);obtain⟨y,rfl,hq⟩:=hone _ _ _ hr;rw[hcw]at hc;obtain⟨_,hg⟩:=Qyz hc;exact⟨y,hq,λj hj=>by rw[<- hg j hj,Zk]⟩
  by_cases h0:len=0
  ·exact⟨_,[],hcs,.inr ⟨a,cap,by rw[h0];rfl,L7 _,by unfold maxLen at hcm;unfold UNK;omega,λ_=>rfl,λh=>absurd h (NX 0),λj u hj=>by simp at hj⟩,λy hy=>by simp at hy⟩
  ·obtain⟨y0,_⟩:=hex 0 (by omega);have:Inhabited α:=⟨y0⟩;obtain⟨f,hf⟩:=Deep.choose_lt hex;have hlen:((List.range len).map f).length=len:=by simp
   refine⟨_,(List.range len).map f,hcs,.inr ⟨a,cap,by rw[hlen],by rw[hlen];exact hlc,by unfold maxLen at hcm;unfold UNK;omega,λh=>by rw[hlen]at h;omega,λ_=>?_,λj u hj=>?_⟩,λy hy=>?_⟩
   ·have h1:=(hf 0 (by omega)).2 0 hw;cases hg:(g (f 0))[0]? with
    | none=>rw[Db,hgw]at hg;omega
    | some u=>
     rw[hg]at h1;have:=ND W _ h1;rwa [Ab.block_add]at this
   ·obtain⟨y,e1,e2⟩:=Qq9 hw hgw _ j u hj;rw[LD]at e1;obtain⟨i,hi,rfl⟩:=Lx.1 e1;have hlt:=(Lk.1 hi).1;rw[DB (by simpa using hlt)]at hi;cases hi;have:=(hf (j / w) (by simpa using hlt)).2 (j % w) (Rm _ hw);rw[show j / w * w+j % w=j by rw[Hv];exact Nat.div_add_mod j w,e2]at this;exact this
   ·obtain⟨i,hi,rfl⟩:=N4.1 hy;exact(hf i (LU.1 hi)).1
def Qhd (t n:Nat):Prop:=prog.cellsOf t=n∧∀ (H:Type) (enc:TypeId×Value->H) (W:World) (base:Nat) (spare:Nat->Bool) (held:Bool) (fuel:Nat) (cs:List Value) (x:DataW H×List MemPlace),DataW.trod enc prog W base spare held fuel t cs=some x->∃zs:List Int,zs.length=n∧cs=zs.map (Value.int .i64)∧∀z∈zs,I64 z
theorem Qww {t:Nat} (hu:prog.underlying t=some (.int .i64)) (hc:prog.cellsOf t=1):Qhd t 1:=⟨hc,λH enc W base spare held fuel cs x h=>by
 obtain⟨z,e,_,hw⟩:=BT hu h;refine⟨[z],rfl,e,λy hy=>?_⟩;rw[Sa.1 hy];exact QlY hw⟩
theorem Qdh {t:Nat} {fs:Array Field} (hu:prog.underlying t=some (.struct fs)) (ns:List Nat) (hlen:ns.length=fs.size) (hc:prog.cellsOf t=ns.sum)
  (hf:∀i (hi:i<ns.length),∃f,fs[i]? = some f∧f.offset=(ns.take i).sum∧Qhd f.type ns[i]):Qhd t ns.sum:=⟨hc,λH enc W base spare held fuel cs x h=>by
 obtain⟨xs,m,e,hx,hcl,hxl,hf'⟩:=RL hu h;have key:∀i,i<=ns.length->∃zs:List Int,zs.length=(ns.take i).sum∧cs.take (ns.take i).sum=zs.map (Value.int .i64)∧∀z∈zs,I64 z:=by
  intro i
  induction i with
  | zero=>exact λ_=>⟨[],by simp,by simp,λz hz=>by cases hz⟩
  | succ i ih=>
   intro hi;obtain⟨zs,e1,e2,e3⟩:=ih (by omega);obtain⟨f,g1,g2,g3,g4⟩:=hf i (by omega);have hr:=hf' i f g1;have hxi:i<xs.length:=by rw[hxl,<- hlen];omega
   rw[g2,g3,La hxi]at hr;obtain⟨ys,q1,q2,q3⟩:=g4 _ _ _ _ _ _ _ _ _ hr;have hs:(ns.take (i+1)).sum=(ns.take i).sum+ns[i]:=by
    rw[Nv,List.sum_append,La (by omega)];simp
   refine⟨zs++ys,by rw[Lh,e1,q1,hs],?_,λz hz=>?_⟩
   ·rw[hs,List.take_add,e2,q2,N6]
   ·rcases LI.1 hz with h1 | h1
    ·exact e3 z h1
    ·exact q3 z h1
 obtain⟨zs,e1,e2,e3⟩:=key ns.length (Lb _);rw[Nr]at e1 e2;rw[LF (by rw[hcl,hc];exact Lb _)]at e2;exact⟨zs,e1,e2,e3⟩⟩
theorem QF4 {zs:List Int} (h:zs.length=11) (hI:∀z∈zs,I64 z):∃a:Ar,zs.map (Value.int .i64)=a.cells∧I64 a.n:=by
 match zs,h with
 | [k,rc,rn,a,b,c,d,e,f,g,n],_=>exact⟨⟨k,⟨rc,rn⟩,⟨⟨a,b⟩,⟨c,d⟩,e,f,g⟩,n⟩,rfl,hI n (by simp)⟩
def QsL (W:World) (v:Value):Prop:=∃ (op:Int) (va:Value) (l:List Ar),v=.agg #[.int .i64 op,va]∧I64 op∧QEY W va l.length (Qo l)∧∀a∈l,I64 a.n
theorem QA4 {H:Type} {enc:TypeId×Value->H} {W:World} {base':Nat} {spare:Nat->Bool} {held:Bool} {v:Value} {d:DataW H} {p:List MemPlace} {ti ta tas tin:Nat} {f0 f1:Field} (hi:prog.underlying ti=some (.int .i64)) (hi1:prog.cellsOf ti=1) (ha:Qhd ta 11) (has:prog.underlying tas=some (.slice ta)) (has1:prog.cellsOf tas=1)
  (hin:prog.underlying tin=some (.struct #[f0,f1])) (hin2:prog.cellsOf tin=2) (h0:f0.offset=0∧f0.type=ti) (h1:f1.offset=1∧f1.type=tas) (hv:∃cs,v=.agg cs) (h:∃n,DataW.trod enc prog W base' spare held n tin v.cells.toList=some (d,p)):QsL W v:=by
 obtain⟨n,h⟩:=h;obtain⟨cs,rfl⟩:=hv;have hcs:(Value.agg cs).cells.toList=cs.toList:=rfl;rw[hcs]at h;obtain⟨xs,m,e,hx,hcl,hxl,hf⟩:=RL hin h;rw[hin2]at hcl;have hxl:xs.length=2:=hxl;have r0:=hf 0 f0 rfl;have r1:=hf 1 f1 rfl;rw[h0.1,h0.2,hi1,La (by omega)]at r0;rw[h1.1,h1.2,has1,La (by omega)]at r1;obtain⟨op,e0,_,w0⟩:=BT hi r0;obtain⟨va,l,e1,hr,hq⟩:=QEZ (g:=Ar.cells) (Q:=λa=>I64 a.n) (w:=11) (by decide) (λ_=>rfl) has ha.1 (λn cs x h=>by
  obtain⟨zs,q1,q2,q3⟩:=ha.2 _ _ _ _ _ _ _ _ _ h;obtain⟨a,g1,g2⟩:=QF4 q1 q3;exact⟨a,q2.trans g1,g2⟩) r1
 refine⟨op,va,l,?_,QlY w0,hr,hq⟩;have:cs.toList=[.int .i64 op,va]:=by
  match hc:cs.toList,hcl with
  | [p0,p1],_=>
   rw[hc]at e0 e1;simp at e0 e1;rw[e0,e1]
 rw[<- RE (xs:=cs),this]
theorem QsM {l:List Ar}:∀u∈Qo l,Ab.plain u=true:=λu hu=>by
 unfold Qo at hu;obtain⟨y,_,hy⟩:=NF.1 hu;simp only[Ar.cells,LK,Ns,NN]at hy;rcases hy with rfl | rfl | rfl | rfl | rfl | rfl | rfl | rfl | rfl | rfl | rfl<;>rfl
theorem QuP {W:World} {v:Value} {ρ0:Ren} {H0:Qa} (hs:Sim prog ρ0 H0 W) (hw:H0.Wf) (hro:Qdv H0) (h:QsL W v):
  ∃ (op:Int) (u:Value) (l:List Ar) (ρ:Ren) (H:Qa),I64 op∧Sub ρ0 ρ∧Sim prog ρ H W∧H.Wf∧Qdv H∧Ext H0 H∧V ρ (.agg #[.int .i64 op,u]) v∧Q0 H u l∧(∀a∈l,I64 a.n)∧∀n,H.next<=n->Qm n 6 (.agg #[.int .i64 op,u])=true:=by
 obtain⟨op,va,l,rfl,hop,hr,hq⟩:=h;obtain⟨u,ρ,H,s1,hs1,hw1,hro1,hx1,hv1,hi1,hb1⟩:=QF3 Qh QsM hs hw hro hr;have hb2:∀n,H.next<=n->Qm n 6 (.agg #[.int .i64 op,u])=true:=λn hn=>by
  obtain⟨a1,c1,rfl,_⟩:=hi1;cases a1 with
  | none=>simp[Qm,Ab.plain]
  | some a1=>
   have:=hb1 _ _ _ rfl;simp[Qm,Ab.plain];omega
 refine⟨op,u,l,ρ,H,hop,s1,hs1,hw1,hro1,hx1,?_,hi1,hq,hb2⟩;refine .agg _ _ rfl λj a b ha hb=>?_;rcases j with _ | _ | j
 ·cases ha;cases hb;exact .same _ rfl
 ·cases ha;cases hb;exact hv1
 ·simp at ha
end Go.Proofs.YtiepokkmhhginaaGreatDoor.code
