/- What a form of the table has, as one test. -/
import Derived.Test.YtgepgbbjfhggfaaGreatDoorLibH
import Derived.Test.YtgepgbbjfhggfaaGreatDoorLibA
import Derived.Test.YtgepgbbjfhggfaaGreatDoorAbD
import Derived.Test.YtgepgbbjfhggfaaGreatDoorS1Laid
import Derived.ProofKit
import Derived.OpenShut
import Derived.ChangeOld
import Derived.Deep.Slices
import Derived.Test.YtgepgbbjfhggfaaGreatDoorLibI
set_option linter.unusedVariables false
set_option maxRecDepth 100000
set_option linter.unusedSimpArgs false
namespace Go.Proofs.YtgepgbbjfhggfaaGreatDoor.code
open Go.Ab
def QIw (f:Fm):Bool:=
 (Za f.op) &&
 (decide (f.shapes.length<=4∧f.slots.length=f.shapes.length)) &&
 (decide ((0<=f.pre∧f.pre<=5)∧(0<=f.map∧f.map<=3)∧(0<=f.code∧f.code<=255)∧(-1<=f.digit∧f.digit<=7))) &&
 (((List.range f.slots.length).all λi=>Qf5 (f.shapes.getD i 0) (f.slots.getD i 0)&&(decide (f.slots.getD i 0=6)||decide (Qp f.slots (f.slots.getD i 0)=i)))) &&
 (decide (if f.vex=true then ¬f.map=0∧¬f.pre=3∧¬f.pre=5∧(-1<=f.w∧f.w<=1)∧(0<=f.l∧f.l<=1) else(0<=f.w∧f.w<=1)∧f.l=0∧Qp f.slots 3<0∧Qp f.slots 7<0)) &&
 (decide (if 0<=Qp f.slots 4 then Qp f.slots 1<0∧Qp f.slots 2<0∧f.digit<0 else if 0<=Qp f.slots 2 then(0<=Qp f.slots 1↔f.digit<0) else Qp f.slots 1<0∧f.digit<0)) &&
 (decide ((0<=Qp f.slots 4->f.code % 8=0∧¬ (f.map=0∧(f.code=64∨f.code=72)))∧(¬f.map=0∨(¬f.code=15∧¬ (64<=f.code∧f.code<=79)∧¬f.code=102∧¬f.code=196∧¬f.code=197∧¬f.code=242∧¬f.code=243))))
theorem QGG {f:Fm}(h:QIw f=true):Chk f:=by
 unfold QIw at h;simp only[Lm]at h;obtain⟨⟨⟨⟨⟨⟨q,aa⟩,ab⟩,ac⟩,ad⟩,ae⟩,ag⟩:=h;refine⟨q,Lg aa,Lg ab,λi hi=>?_,Lg ad,Lg ae,Lg ag⟩;have h:=Li.1 ac i (LU.2 hi);simp only[Lm,Nw,Lv]at h;exact h
structure Ky where
 vex:Bool
 pre:Int
 w:Int
 l:Int
 map:Int
 code:Int
def Ky.cells (k:Ky):List Value:=[.bool k.vex,.int .i64 k.pre,.int .i64 k.w,.int .i64 k.l,.int .i64 k.map,.int .i64 k.code]
section
variable {T:Qa->Prop} (hT:∀H H',H.Wf->T H->Ext H H'->T H') (LL:FuncId->List Fm) (hL:∀x∈lis,Kc T x.2.2 (LL x.2.2))
include hT hL
end
section
variable {T:Qa->Prop} (hT:∀H H',H.Wf->T H->Ext H H'->T H') {L:List Fm} (hR:∀H,T H->Qe prog 59 [] H λu H'=>QkX H H' u L)
include hR
theorem Qny (op:Int)(H:Qa)(aQ:T H):Qe prog 33 [.int .i64 op] H λu H'=>QkX H H' u (L.filter λf=>f.op==op):=by
 refine QlT λbk=>?_;simp only[QdV,Qb,simprocAttr];refine(hR H aQ).thenW ?_;rintro br H1 bi aH ⟨aR,xs,aL,aE,bm,aT⟩;have aF:=aE.fms;obtain⟨ag,cap,rfl,bj⟩:=id aF.1;have bg:∀a,ag=some a->H.next<=a.block∧(xs≠[]->a.block<H1.next):=λa au=>by
  subst au;rcases aE with⟨e,_⟩ | ⟨b,e,ah,ai,_⟩
  ·cases e
  ·cases e;exact⟨ah,λ_=>aH.lt ai⟩
 simp only[Qb,simprocAttr];refine Qo (λm A' H'=>∃ (i:Nat) (zs:List Lf),i<=xs.length∧m=xs.length - i∧H'.Wf∧Ext H H'∧H1.next<=H'.next∧zs.map (·.f)=((xs.take i).map (·.f)).filter (λf=>f.op==op)∧zs.length<=i∧Acc H H' (A' 3) zs∧Qkj H' (.slice ag xs.length cap) xs∧(∀z∈zs,z.Fr H.next)∧
   (∀a l c b,A' 3=.slice (some a) l c->ag=some b->b.block≠a.block)∧
   A' 0=.int .i64 op∧A' 4=.slice ag xs.length cap∧A' 5=.int .i64 i) xs.length ?_ ?_
 ·refine⟨0,[],L7 _,by omega,aH,aR,Lb _,by simp,by simp,?_,aF,λz ac=>(by cases ac),?_,?_,?_,?_⟩
  all_goals simp only[Qg,simprocAttr]
  ·exact .inl ⟨rfl,rfl⟩
  ·exact λa l c b h=>by cases h
  all_goals rfl
 ·rintro m A' H3 ⟨k,zs,bh,rfl,ab,am,aO,ao,bn,aj,aw,az,aG,aq,ad,ae⟩;simp only[Qb3,Qb,simprocAttr,aq,ad,ae];refine Qf (λq=>?_) (λq=>?_)
  ·have q:k<xs.length:=by have:=Lg q;omega
   obtain⟨⟨a4,bc,e4,aP⟩,aS⟩:=id aw;cases e4;obtain⟨ba,bd,bp,rfl,av⟩:=aP (by omega);have d1:(0:Int)<=k∧(k:Int)<xs.length:=by omega
   have d3:(k:Int).toNat=k:=by omega
   have d4:k * 10+10<=xs.length * 10:=by omega
   have aC:IntKind.i64.wrap ((k:Int)+1)=((k+1:Nat):Int):=by rw[w64 (by unfold I64;omega)];omega
   have ax:=La q;have ar:=QcG xs k _ ax;have aJ:=XH xs;have ay:xs[k]∈xs:=Nb q;have aA:=aS _ ay;have wf:(xs[k]).Fr H.next:=aT _ ay;have aI:xs.take (k+1)=xs.take k++[xs[k]]:=NM q;have g0:=Qxv xs k 0 _ ax (by decide);rw[N9,lg0]at g0;generalize xs[k]=x at ax ar ay aA wf aI g0;have aB:=Qex aA;simp only[Qb2,Qb,simprocAttr,aq,ad,ae,d1,d3,d4,av,aJ,ar,g0,QK,Wt,aB];have ak:((xs.take (k+1)).map (·.f)).filter (λf=>f.op==op)=((xs.take k).map (·.f)).filter (λf=>f.op==op)++bif x.f.op==op then[x.f] else[]:=by
    rw[aI,N6,Re];cases al:x.f.op==op<;>simp[al]
   cases al:x.f.op==op
   ·rw[al]at ak;simp only[Qb,simprocAttr,ae,aC];refine⟨xs.length - (k+1),by omega,k+1,zs,by omega,rfl,ab,am,aO,by rw[ak,ao];simp,by omega,?_,aw,az,?_,?_,?_,?_⟩
    all_goals simp only[Qg,simprocAttr,aq,ad]
    ·exact aj
    ·exact λa l c b ah ai=>aG a l c b ah (by rw[ai])
   ·rw[al]at ak;simp only[Qb,simprocAttr,ad,ae,d1,d3,d4,av,aJ,ar,QK,Wt,aB];have an:Ext H3 (H3.push (.cells x.cells 45 false)):=(Ext.refl H3).push _;have aD:=aj.ext ab an;have aN:=aw.ext ab an;refine Acc.app aD (am.trans an) (ab.push _) (aA.ext ab an) (by omega) (by rw[Qc,Lc rfl]) (λa l c aa e=>?_) λbq H6 aU aV aW aX aK aY=>?_
    ·rcases aj with⟨h,_⟩ | ⟨bb,h,_,aM,_⟩
     ·rw[h]at aa;cases aa
     ·rw[h]at aa;cases aa;have:=ab.lt aM;simp only at e;omega
    ·simp only[Qb,simprocAttr,ae,aC];simp only[Qd]at aW aK;refine⟨xs.length - (k+1),by omega,k+1,zs++[x],by omega,rfl,aV,aU,by omega,by rw[ak,N6,ao];simp,by simp;omega,?_,aY.fms aD aN λa l c aZ bo c' au aa=>?_,?_,?_,?_,?_,?_⟩
     rotate_left 2
     ·intro z ac;simp only[LI,Sa]at ac;rcases ac with ac | rfl
      ·exact az z ac
      ·exact wf
     ·intro a l c b aa hb;cases hb;simp only[Qg,simprocAttr]at aa;have ah:=aK a l c aa;have ai:=ab.lt av;simp only;omega
     rotate_right 2
     ·simp only[Qg,simprocAttr];exact aX
     ·cases au;exact aG _ _ _ _ aa rfl
     all_goals simp only[Qg,simprocAttr,aq,ad]
  ·have q:k=xs.length:=by have:=Ll q;omega
   subst q;simp only[Qb,simprocAttr,QkK];rw[LF (Lb _),aL]at ao;exact .mk am.next ⟨am,zs,ao,aj,by omega,az⟩
include hT
end
end Go.Proofs.YtgepgbbjfhggfaaGreatDoor.code
namespace Go.Proofs.YtgepgbbjfhggfaaGreatDoor.code
open Go.Ab Go.ChangeShapes Go.WideShapes Go.ChangeAt Go.RowKit
theorem Qvc {z:Int}(h:(Lit.int .i64 z).wf=true):I64 z:=by
 have:=bounds_i64 h;unfold I64;omega
theorem QGH:QgW (JU prog.globals.size tab.tabs):=λid b h=>by
 obtain⟨t,_,_,rfl⟩:=JE h;rfl
def QIx (W:World)(v:Value)(n:Nat)(cs:List Value):Prop:=(v=.slice none 0 0∧n=0∧cs=[])∨∃a cap,v=.slice (some a) n cap∧n<=cap∧cap<UNK∧(n=0->cs=[])∧(0<n->a.block<W.heap.size)∧∀ (j:Nat) u,cs[j]? = some u->W.cell? (a.add j)=some u
theorem QJQ {W:World}{v:Value}{n:Nat}{cs:List Value}{ρ0:Ren}{H0:Qa}(ac:Nat)(al:∀u∈cs,Ab.plain u=true)(aa:Sim prog ρ0 H0 W)(ab:H0.Wf)(q:QgW H0)(h:QIx W v n cs):
  ∃ (u:Value) (ρ:Ren) (H:Qa),Sub ρ0 ρ∧Sim prog ρ H W∧H.Wf∧QgW H∧Ext H0 H∧V ρ u v∧QdA H u n cs∧∀a m c,u=.slice (some a) m c->a.block<H.next:=by
 have ai:∀i,Sub ρ0 (ext ρ0 H0.next i):=λi=>Qfg i aa.none_next;rcases h with⟨rfl,rfl,rfl⟩ | ⟨a,cap,rfl,ah,ad,am,ak,aj⟩
 ·exact⟨.slice none 0 0,ρ0,H0,λ_ _ h=>h,aa,ab,q,.refl _,.same _ rfl,⟨none,0,rfl,λh=>absurd h (NX 0)⟩,λa m c h=>by cases h⟩
 ·by_cases ag:0<n
  ·exact⟨.slice (some ⟨H0.next,0,none⟩) n cap,_,H0.push (.cells cs ac true),ai _,aa.addRo q ac (ak ag) (λj u ae=>⟨_,aj j u ae,.same u (al u (Ln ae))⟩),ab.push _,q.push _ _,(Ext.refl H0).push _,V.sliceIn (Xa _ _ _) ah ad,⟨_,_,rfl,λ_=>⟨H0.next,ac,true,rfl,by rw[Qc,Lc rfl]⟩⟩,λa m c h=>by cases h;exact Rq _⟩
  ·exact⟨.slice (some ⟨H0.next,0,none⟩) n cap,_,H0.up (H0.next+1),ai _,aa.addDead ab a,ab.up (by omega),q.up _,(Ext.refl H0).up (by omega),V.sliceIn (Xa _ _ _) ah ad,⟨_,_,rfl,λh=>absurd h ag⟩,λa m c h=>by cases h;exact Rq _⟩
theorem Qvd {α:Type}{g:α->List Value}{w:Nat}(ab:0<w)(q:∀x,(g x).length=w):∀ (l:List α) (j:Nat) (u:Value),(l.flatMap g)[j]? = some u->∃x,l[j / w]? = some x∧(g x)[j % w]? = some u
 | [],j,u,h=>by simp at h
 | a::l,j,u,h=>by
  rw[Ba]at h
  by_cases aa:j<w
  ·rw[LY (by rw[q];exact aa)]at h;rw[FL aa,RA aa];exact⟨a,rfl,h⟩
  ·rw[LR (by rw[q];omega),q]at h;obtain⟨x,ac,ad⟩:=Qvd ab q l (j - w) u h;refine⟨x,?_,?_⟩
   ·rw[Nat.div_eq_sub_div ab (by omega),Bg];exact ac
   ·rw[Nat.mod_eq_sub_mod (by omega)];exact ad
theorem QIy {α:Type}{g:α->List Value}{Q:α->Prop}{w:Nat}(ag:0<w)(an:∀x,(g x).length=w){H:Type}{enc:TypeId×Value->H}{W:World}{base:Nat}{spare:Nat->Bool}{al:Bool}{ar aq ah:Nat}{cs:List Value}{x:DataW H×List MemPlace}(aC:prog.underlying aq=some (.slice ah))(av:prog.cellsOf ah=w)
  (az:∀ (n:Nat) (cs:List Value) (x:DataW H×List MemPlace),DataW.trod enc prog W base spare al n ah cs=some x->∃y:α,cs=g y∧Q y)
  (h:DataW.trod enc prog W base spare al ar aq cs=some x):∃ (v:Value) (l:List α),cs=[v]∧QIx W v l.length (l.flatMap g)∧∀y∈l,Q y:=by
 rcases Deep.open_slice aC h with⟨ab,_⟩ | ⟨a,len,cap,m,n,D,Pl,ab,_,ax,ak,ay,_,aw⟩
 ·exact⟨.slice none 0 0,[],ab,.inl ⟨rfl,rfl,rfl⟩,λy aa=>by simp at aa⟩
 ·have aF:len<=m:=by rw[ay];split<;>omega
  have am:∀i,i<len->∃y:α,Q y∧∀j,j<w->W.cell? (a.add (i * w+j))=(g y)[j]? := λi hi=>by
   obtain⟨aE,aj,aB⟩:=aw i (by omega);obtain⟨y,rfl,aA⟩:=az _ _ _ aB;rw[av]at aj;obtain⟨_,ac⟩:=QCc aj;exact⟨y,aA,λj q=>by rw[<- ac j q,Gj]⟩
  by_cases au:len=0
  ·exact⟨_,[],ab,.inr ⟨a,cap,by rw[au];rfl,L7 _,by unfold maxLen at ak;unfold UNK;omega,λ_=>rfl,λh=>absurd h (NX 0),λj u q=>by simp at q⟩,λy aa=>by simp at aa⟩
  ·obtain⟨aD,_⟩:=am 0 (by omega);have:Inhabited α:=⟨aD⟩;obtain⟨f,ad⟩:=Deep.choose_lt am;have ae:((List.range len).map f).length=len:=by simp
   refine⟨_,(List.range len).map f,ab,.inr ⟨a,cap,by rw[ae],by rw[ae];exact ax,by unfold maxLen at ak;unfold UNK;omega,λh=>by rw[ae]at h;omega,λ_=>?_,λj u q=>?_⟩,λy aa=>?_⟩
   ·have ai:=(ad 0 (by omega)).2 0 ag;cases ac:(g (f 0))[0]? with
    | none=>rw[Db,an]at ac;omega
    | some u=>
     rw[ac]at ai;have:=ND W _ ai;rwa [Ab.block_add]at this
   ·obtain⟨y,e1,e2⟩:=Qvd ag an _ j u q;rw[LD]at e1;obtain⟨i,hi,rfl⟩:=Lx.1 e1;have ao:=(Lk.1 hi).1;rw[DB (by simpa using ao)]at hi;cases hi;have:=(ad (j / w) (by simpa using ao)).2 (j % w) (Rm _ ag);rw[show j / w * w+j % w=j by rw[Hv];exact Nat.div_add_mod j w,e2]at this;exact this
   ·obtain⟨i,hi,rfl⟩:=N4.1 aa;exact(ad i (LU.1 hi)).1
def Qlp (t n:Nat):Prop:=prog.cellsOf t=n∧∀ (H:Type) (enc:TypeId×Value->H) (W:World) (base:Nat) (spare:Nat->Bool) (aa:Bool) (q:Nat) (cs:List Value) (x:DataW H×List MemPlace),DataW.trod enc prog W base spare aa q t cs=some x->∃zs:List Int,zs.length=n∧cs=zs.map (Value.int .i64)∧∀z∈zs,I64 z
theorem QAC {t:Nat}(aa:prog.underlying t=some (.int .i64))(q:prog.cellsOf t=1):Qlp t 1:=⟨q,λH enc W base spare ae ad cs x h=>by
 obtain⟨z,e,_,ab⟩:=BT aa h;refine⟨[z],rfl,e,λy ac=>?_⟩;rw[Sa.1 ac];exact Qvc ab⟩
theorem Qgv {t:Nat}{q:Array Field}(ak:prog.underlying t=some (.struct q))(ns:List Nat)(aj:ns.length=q.size)(ac:prog.cellsOf t=ns.sum)
  (ah:∀i (hi:i<ns.length),∃f,q[i]? = some f∧f.offset=(ns.take i).sum∧Qlp f.type ns[i]):Qlp t ns.sum:=⟨ac,λH enc W base spare av au cs x h=>by
 obtain⟨xs,m,e,aw,ag,am,ai⟩:=RL ak h;have key:∀i,i<=ns.length->∃zs:List Int,zs.length=(ns.take i).sum∧cs.take (ns.take i).sum=zs.map (Value.int .i64)∧∀z∈zs,I64 z:=by
  intro i
  induction i with
  | zero=>exact λ_=>⟨[],by simp,by simp,λz ab=>by cases ab⟩
  | succ i an=>
   intro hi;obtain⟨zs,e1,e2,e3⟩:=an (by omega);obtain⟨f,g1,g2,g3,g4⟩:=ah i (by omega);have ad:=ai i f g1;have al:i<xs.length:=by rw[am,<- aj];omega
   rw[g2,g3,La al]at ad;obtain⟨ys,ao,aq,ar⟩:=g4 _ _ _ _ _ _ _ _ _ ad;have ae:(ns.take (i+1)).sum=(ns.take i).sum+ns[i]:=by
    rw[Nv,List.sum_append,La (by omega)];simp
   refine⟨zs++ys,by rw[Lh,e1,ao,ae],?_,λz ab=>?_⟩
   ·rw[ae,List.take_add,e2,aq,N6]
   ·rcases LI.1 ab with aa | aa
    ·exact e3 z aa
    ·exact ar z aa
 obtain⟨zs,e1,e2,e3⟩:=key ns.length (Lb _);rw[Nr]at e1 e2;rw[LF (by rw[ag,ac];exact Lb _)]at e2;exact⟨zs,e1,e2,e3⟩⟩
theorem QJR {zs:List Int}(h:zs.length=11)(q:∀z∈zs,I64 z):∃a:Ar,zs.map (Value.int .i64)=a.cells∧I64 a.n:=by
 match zs,h with
 | [k,rc,rn,a,b,c,d,e,f,g,n],_=>exact⟨⟨k,⟨rc,rn⟩,⟨⟨a,b⟩,⟨c,d⟩,e,f,g⟩,n⟩,rfl,q n (by simp)⟩
def QAD (W:World)(v:Value):Prop:=∃ (op:Int) (va:Value) (l:List Ar),v=.agg #[.int .i64 op,va]∧I64 op∧QIx W va l.length (Qh l)∧∀a∈l,I64 a.n
theorem QIz {H:Type}{enc:TypeId×Value->H}{W:World}{an:Nat}{spare:Nat->Bool}{au:Bool}{v:Value}{d:DataW H}{p:List MemPlace}{ac am ab ad:Nat}{q aa:Field}(hi:prog.underlying ac=some (.int .i64))(av:prog.cellsOf ac=1)(ah:Qlp am 11)(ao:prog.underlying ab=some (.slice am))(aq:prog.cellsOf ab=1)
  (aw:prog.underlying ad=some (.struct #[q,aa])) (ax:prog.cellsOf ad=2) (ae:q.offset=0∧q.type=ac) (ag:aa.offset=1∧aa.type=ab) (aA:∃cs,v=.agg cs) (h:∃n,DataW.trod enc prog W an spare au n ad v.cells.toList=some (d,p)):QAD W v:=by
 obtain⟨n,h⟩:=h;obtain⟨cs,rfl⟩:=aA;have ar:(Value.agg cs).cells.toList=cs.toList:=rfl;rw[ar]at h;obtain⟨xs,m,e,aF,ai,ak,aj⟩:=RL aw h;rw[ax]at ai;have ak:xs.length=2:=ak;have al:=aj 0 q rfl;have r1:=aj 1 aa rfl;rw[ae.1,ae.2,av,La (by omega)]at al;rw[ag.1,ag.2,aq,La (by omega)]at r1;obtain⟨op,e0,_,aE⟩:=BT hi al;obtain⟨va,l,e1,az,ay⟩:=QIy (g:=Ar.cells) (Q:=λa=>I64 a.n) (w:=11) (by decide) (λ_=>rfl) ao ah.1 (λn cs x h=>by
  obtain⟨zs,aB,aC,aD⟩:=ah.2 _ _ _ _ _ _ _ _ _ h;obtain⟨a,g1,g2⟩:=QJR aB aD;exact⟨a,aC.trans g1,g2⟩) r1
 refine⟨op,va,l,?_,Qvc aE,az,ay⟩;have:cs.toList=[.int .i64 op,va]:=by
  match hc:cs.toList,ai with
  | [p0,p1],_=>
   rw[hc]at e0 e1;simp at e0 e1;rw[e0,e1]
 rw[<- RE (xs:=cs),this]
theorem QwN {l:List Ar}:∀u∈Qh l,Ab.plain u=true:=λu q=>by
 unfold Qh at q;obtain⟨y,_,aa⟩:=NF.1 q;simp only[Ar.cells,LK,Ns,NN]at aa;rcases aa with rfl | rfl | rfl | rfl | rfl | rfl | rfl | rfl | rfl | rfl | rfl<;>rfl
theorem QEF {W:World}{v:Value}{ρ0:Ren}{H0:Qa}(aj:Sim prog ρ0 H0 W)(am:H0.Wf)(ah:QgW H0)(h:QAD W v):
  ∃ (op:Int) (u:Value) (l:List Ar) (ρ:Ren) (H:Qa),I64 op∧Sub ρ0 ρ∧Sim prog ρ H W∧H.Wf∧QgW H∧Ext H0 H∧V ρ (.agg #[.int .i64 op,u]) v∧Qt H u l∧(∀a∈l,I64 a.n)∧∀n,H.next<=n->Qi n 6 (.agg #[.int .i64 op,u])=true:=by
 obtain⟨op,va,l,rfl,ad,ag,ae⟩:=h;obtain⟨u,ρ,H,aq,ak,an,ai,ao,al,aa,ab⟩:=QJQ 58 QwN aj am ah ag;have ac:∀n,H.next<=n->Qi n 6 (.agg #[.int .i64 op,u])=true:=λn au=>by
  obtain⟨a1,ar,rfl,_⟩:=aa;cases a1 with
  | none=>simp[Qi,Ab.plain]
  | some a1=>
   have:=ab _ _ _ rfl;simp[Qi,Ab.plain];omega
 refine⟨op,u,l,ρ,H,ad,aq,ak,an,ai,ao,?_,aa,ae,ac⟩;refine .agg _ _ rfl λj a b q hb=>?_;rcases j with _ | _ | j
 ·cases q;cases hb;exact .same _ rfl
 ·cases q;cases hb;exact al
 ·simp at q
end Go.Proofs.YtgepgbbjfhggfaaGreatDoor.code
