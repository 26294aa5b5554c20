/- Slices of bytes that begin anywhere; slices.Clone of bytes, bytes.Equal, sweep.check. -/
import Derived.Test.YtopkfjiipdjbmaaGreatDoorC8Sweep
import Derived.Test.YtopkfjiipdjbmaaGreatDoorLibR
import Derived.Test.YtopkfjiipdjbmaaGreatDoorLibB
import Derived.Test.YtopkfjiipdjbmaaGreatDoorLibI
import Derived.Test.YtopkfjiipdjbmaaGreatDoorAbD
import Derived.Test.YtopkfjiipdjbmaaGreatDoorLibC
import Derived.Test.YtopkfjiipdjbmaaGreatDoorLibN
import Derived.Test.YtopkfjiipdjbmaaGreatDoorLibO
import Derived.Test.YtopkfjiipdjbmaaGreatDoorLibA
set_option linter.unusedVariables false
set_option linter.unusedSimpArgs false
set_option maxRecDepth 100000
set_option maxHeartbeats 4000000
noncomputable section
namespace Go.Proofs.YtopkfjiipdjbmaaGreatDoor.code
open Go.Ab
def ZJ (H:Qa)(v:Value)(bs:List Int):Prop:=∃a cap,v=.slice a bs.length cap∧bs.length<=cap∧cap<UNK∧Qh3 H v bs
theorem ZJ.ext {H H':Qa}{v:Value}{bs:List Int}(ag:H.Wf)(ae:Ext H H')(h:ZJ H v bs):ZJ H' v bs:=by
 obtain⟨a,cap,aa,ab,ac,ad⟩:=h;exact⟨a,cap,aa,ab,ac,ad.ext ag ae⟩
theorem QE0 {bs:List Int}{p n k:Nat}(h:k<n):((bs.drop p).take n).getD k 0=bs.getD (p+k) 0:=by
 rw[LX,LX,Nl,Lc h,Nk]
theorem ZJ.sub {H:Qa}{v:Value}{bs:List Int}(h:ZJ H v bs){p n:Nat}(al:p+n<=bs.length):∃w,Y3 1 v (some (p:Int)) (some ((p+n:Nat):Int)) none=some w∧ZJ H w ((bs.drop p).take n):=by
 have aa:((bs.drop p).take n).length=n:=by rw[Sb,NT];omega
 obtain⟨a,cap,rfl,aj,ak,a0,c0,e,ac⟩:=h;cases e;cases a with
 | none=>
  have ai:bs.length=0:=by
   rcases B6 bs.length with h | h
   ·exact h
   ·obtain⟨_,_,_,_,_,h,_⟩:=ac h;cases h
  unfold Y3;simp only[NB,Br];rw[Lc (by omega)];refine⟨_,rfl,none,cap - p,by rw[aa,show((p+n:Nat):Int).toNat - (p:Int).toNat=n by omega];simp,by omega,by omega,none,_,by rw[aa,show((p+n:Nat):Int).toNat - (p:Int).toNat=n by omega],λh=>by rw[aa]at h;omega⟩
 | some ab=>
  unfold Y3;simp only[NB,Br];rw[Le (by omega),Lc (by omega)];refine⟨.slice (some (if(cap:Int).toNat=(p:Int).toNat then ab else⟨ab.block,ab.off+(p:Int).toNat * 1,none⟩)) n (cap - p),by simp only[show((p+n:Nat):Int).toNat - (p:Int).toNat=n by omega,show(cap:Int).toNat - (p:Int).toNat=cap - p by omega],_,cap - p,by rw[aa],by omega,by omega,_,_,by rw[aa],λh=>?_⟩;rw[aa]at h;obtain⟨b,o,e,ro,cs,ae,ah,ag⟩:=ac (by omega);cases ae;rw[Le (by omega)];refine⟨b,o+p,e,ro,cs,by simp,ah,λj ad=>?_⟩;rw[aa]at ad;rw[QE0 ad,Rh];exact ag (p+j) (by omega)
theorem Qx6 {cs:List Value}{o:Nat}{bs:List Int}(h:∀j,j<bs.length->cs[o+j]? = some (.int .u8 (bs.getD j 0))):(cs.drop o).take bs.length=bys bs:=by
 refine BA λi=>?_;unfold bys;rw[Nl,LD];split
 ·rename_i hi;rw[Nk,h i hi,LX,La hi];rfl
 ·rename_i hi;rw[N7 (by omega)];rfl
theorem QBw {cs:List Value}{o:Nat}{bs:List Int}(aa:0<bs.length)(h:∀j,j<bs.length->cs[o+j]? = some (.int .u8 (bs.getD j 0))):o+bs.length<=cs.length:=by
 have:=(Lk.1 (h (bs.length - 1) (by omega))).1;omega
theorem ZJ.src {H:Qa}{v:Value}{bs:List Int}(h:ZJ H v bs):YX 1 v H=some (bs.length,bys bs):=by
 obtain⟨a,cap,rfl,_,_,_,_,e,ac⟩:=h;cases e
 by_cases ab:bs.length=0
 ·have:bs=[]:=N2.1 ab;subst this;cases a<;>simp[YX,bys]
 ·obtain⟨b,o,e,ro,cs,rfl,ad,aa⟩:=ac (by omega);have ae:=QBw (by omega) aa;rw[KM ad (by omega) (by omega),NH,Qx6 aa]
theorem ZJ.cells {H:Qa}{v:Value}{bs:List Int}(h:ZJ H v bs):∃a c,v=.slice a bs.length c∧WB 1 v H=some (bys bs):=by
 obtain⟨a,cap,rfl,_,_,_,_,e,ac⟩:=h;cases e;refine⟨_,_,rfl,?_⟩
 by_cases ab:bs.length=0
 ·have:bs=[]:=N2.1 ab;subst this;cases a<;>simp[WB,bys]
 ·obtain⟨b,o,e,ro,cs,rfl,ad,aa⟩:=ac (by omega);have ae:=QBw (by omega) aa;simp only[WB,ad];rw[Le (by omega),Lc (by omega),NH,Qx6 aa]
theorem QE1 (v:Value)(bs:List Int)(H:Qa)(ab:ZJ H v bs)(aa:0<bs.length)(al:bs.length<=1000000):Qe prog 14 [v] H λu H'=>Gx 1 5 H H' u bs.length (bys bs)∧Ext H H'∧∃b,u=.S b bs.length (UNK+1)∧b<H'.next:=by
 refine Qdy λag=>?_;have ae:=(ab.ext ag ((Ext.refl H).push (.cells [] 5 false))).src;obtain⟨a0,cap,rfl,_,_,_,_,e,ad⟩:=ab;cases e;obtain⟨b,o,e,ro,cs,rfl,ai,ak⟩:=ad aa;have ah:=(Ext.refl H).push (.cells [] 5 false);have aj:=ZR bs;simp(disch:=(first | omega | (simp only[hnP];try omega))) only[JK,QF,simprocAttr]
 rw[Qxq (a:=some ⟨b,o,none⟩) (e:=5) (n:=bs.length) (c:=cap) (by kernel_rfl) (by simp only[Wu,simprocAttr])];simp(disch:=(first | omega | (simp only[hnP];try omega))) only[Qb,simprocAttr,Qrn,simprocAttr,Option.isNone]
 refine QjJ (c:=[]) (ro:=false) (e':=5) ae (Qb5 _) (by omega) (Qio rfl) (by simp) (by omega) (by omega) (by decide) (by omega) ?_;simp(disch:=(first | omega | (simp only[hnP];try omega))) only[Qb,simprocAttr,Qrn,simprocAttr,QcC]
 have ac:=ah.push (.cells (bys bs) 5 false);refine .mk ac.next ⟨.inr ⟨H.next+1,_,rfl,by omega,by rw[Qc,Lc (by rw[Qd])],by omega,.inr ⟨rfl,aa⟩⟩,ac,_,rfl,by rw[Qd,Qd];omega⟩
def txB (l:List Int):List UInt8:=l.map λz=>z.toNat.toUInt8
theorem Qdl:∀l:List Int,Y6 (bys l)=some (txB l)
 | []=>rfl
 | z::l=>by
  have:=Qdl l;unfold bys txB at *;simp only[NZ,Y6,this];rfl
def QeQ (l m:List Int):Bool:=txB l==txB m
theorem QkW (v u:Value)(l m:List Int)(H:Qa)(ad:∃a c,v=.slice a l.length c∧WB 1 v H=some (bys l))(ac:∃a c,u=.slice a m.length c∧WB 1 u H=some (bys m)):Qe prog 22 [v,u] H λx H'=>x=.bool (QeQ l m)∧H'=H:=by
 refine Qr3 λae=>?_;obtain⟨a,c,rfl,aa⟩:=ad;obtain⟨a2,c2,rfl,ab⟩:=ac;simp only[QiO,Qb,simprocAttr];rw[Qfa (a:=a) (n:=l.length) (c:=c) (by kernel_rfl) (by simp only[Qf,simprocAttr]) aa (Qdl l)];simp only[Qb,simprocAttr];rw[Qfa (a:=a2) (n:=m.length) (c:=c2) (by kernel_rfl) (by simp only[Qf,simprocAttr]) ab (Qdl m)];simp only[Qb,simprocAttr,Qqd];exact .mk (Lb _) ⟨by rw[Xh,Xh];rfl,rfl⟩
theorem Gx.cellsB {H0 H:Qa}{v:Value}{l:List Int}(h:Gx 1 5 H0 H v l.length (bys l)):∃a c,v=.slice a l.length c∧WB 1 v H=some (bys l):=by
 rcases h with⟨rfl,h,_⟩ | ⟨b,c,rfl,_,ab,_⟩
 ·have:l=[]:=N2.1 h;subst this;exact⟨none,0,rfl,rfl⟩
 ·refine⟨_,_,rfl,?_⟩
  by_cases aa:l.length=0
  ·have:l=[]:=N2.1 aa;subst this;simp[WB,bys]
  ·have ac:=ZR l;simp only[WB,aa,LN,ab];rw[Lc (by omega),Lw,LF (by omega)]
def Qsk (n:Nat)(o:Int):Int:=if 65536<n then 3 else if o<0∨140737488355328<o then 5 else 0
theorem QkX (v:Value)(bs:List Int)(o:Int)(H:Qa)(ac:ZJ H v bs):Qe prog 12 [v,.Z o] H λx H'=>x=.Z (Qsk bs.length o)∧H'=H:=by
 refine Qr2 λad=>?_;obtain⟨a,c,rfl,_⟩:=ac;unfold Qsk;simp only[QiN,Qb,simprocAttr,Qr];refine Qg (λh=>?_) (λh=>?_)
 ·have h:=Lg h;rw[Lc (by omega)];simp only[Qb,simprocAttr,KS];exact .mk (Lb _) ⟨rfl,rfl⟩
 ·have h:=Ll h;rw[Le (by omega)];simp only[Qfv,Qb,simprocAttr];cases aa:decide (o<0) with
  | true=>
   have aa:=Lg aa;rw[Lc (.inl aa)];simp only[Qb,simprocAttr,KS];exact .mk (Lb _) ⟨rfl,rfl⟩
  | false=>
   have aa:=Ll aa;simp only[Qb,simprocAttr];refine Qg (λab=>?_) (λab=>?_)
   ·have ab:=Lg ab;rw[Lc (.inr (by omega))];simp only[Qb,simprocAttr,KS];exact .mk (Lb _) ⟨rfl,rfl⟩
   ·have ab:=Ll ab;rw[Le (by omega)];simp only[Qb,simprocAttr,KS];exact .mk (Lb _) ⟨rfl,rfl⟩
def QBV (L:List Fm)(x aa:Int):Bool:=match L[x.toNat]? with | some f=>decide (0<=Qy f.shapes aa) | none=>false
def byF (L:List Fm)(Q:List Ld)(bs:List Int)(aa:Int):Bool:=Q.any λc=>QeQ c.b bs&&QBV L c.x aa
def Qk8 (L:List Fm)(op:Int)(l:List Ar)(bs:List Int):Int:=
 if(l.any λa=>a.k==4)=false then 0 else if byF L (Qka L op l).1 bs 26=true then 1 else if byF L (Qka L op l).1 bs 27=true then 2 else 0
theorem QFy {L:List Fm}{op:Int}{l:List Ar}{c:Ld}(h:c∈(Qka L op l).1):∃ (k:Nat) (f:Fm),L[k]? = some f∧c.x=k:=by
 unfold Qka at h;split at h
 ·cases h
 ·split at h
  ·cases h
  ·obtain⟨m,_,k,f,aa,w,_,rfl⟩:=QBU h;exact⟨k,f,aa,rfl⟩
theorem QFz {L:List Fm}{op:Int}{l:List Ar}(h:L.length<=6000):(Qka L op l).1.length<=288000:=by
 unfold Qka;split
 ·simp
 ·split
  ·simp
  ·exact QBT h
theorem QFA (a:Ar)(H:Qa):Qe prog 40 [.agg a.cells.toArray] H λu H'=>u=.bool (a.k==4)∧Ext H H':=by
 refine QhY λai=>?_;obtain⟨aa,⟨ag,ah⟩,⟨⟨ab,ac⟩,⟨ad,ae⟩,sc,d,sz⟩,n⟩:=a;simp only[Ar.cells,VW,Qb,simprocAttr,QgD];have hx:=(Ext.refl H).push (.cells [.Z aa,.Z ag,.Z ah,.Z ab,.Z ac,.Z ad,.Z ae,.Z sc,.Z d,.Z sz,.Z n] 95 false);exact .mk hx.next ⟨rfl,hx⟩
section
variable {T:Qa->Prop} {L:Int->List Fm} (hT:∀H H',H.Wf->T H->Ext H H'->T H') (hO:∀op H,T H->Qe prog 36 [.Z op] H λu H'=>QaY H H' u (L op))
include hT hO
theorem QsK {op:Int}{va bv:Value}{l:List Ar}{bs:List Int}(is:Bool)(aa:Int)(H:Qa)(aJ:T H)(aK:QQ H va l)(b8:∀n,H.next<=n->Qj n 6 (.agg #[.Z op,va])=true)(b2:l.length<=1000)(bm:∀a∈l,I64 a.n)(aM:ZJ H bv bs):
  Qe prog 41 [.agg #[bv,.Z op,va,.bool is],.Z aa] H λu H'=>u=.bool (byF (L op) (Qka (L op) op l).1 bs aa)∧Ext H H':=by
 refine QmG λah=>?_;obtain⟨a0,cap,rfl⟩:=Wd aK;have bp:=aM;obtain⟨ba,bc,rfl,_⟩:=bp;simp only[QdU,Wu,simprocAttr];generalize ak:Qa.push H _=H1;have g1:H1.get H.next=some (.cells [.slice ba bs.length bc,.Z op,.slice a0 l.length cap,.bool is] 44 false):=by rw[<- ak,Qc,Lc rfl];rfl
 have ap:Ext H H1:=by rw[<- ak];exact(Ext.refl H).push _
 have b9:H1.Wf:=by rw[<- ak];exact ah.push _
 clear ak;simp only[Qb,simprocAttr,g1];refine(Qwn hT hO H1 (hT _ _ ah aJ ap) (aK.ext ah ap) (λn bK=>b8 n (by have:=ap.next;omega)) b2 bm).thenW ?_;rintro _ H2 bL aS ⟨bP,rfl,bj,aU⟩;have g2:=(aU.get _ (b9.lt g1)).trans g1;have aV:=ap.trans aU;simp only[Qb,simprocAttr,g2];refine(hO op H2 (hT _ _ ah aJ aV)).thenW ?_;rintro bG H3 bM aj ⟨aw,ab,ar,bC,bE,bN⟩;have g3:=(aw.get _ (aS.lt g2)).trans g2;have bA:=aV.trans aw;have aI:=bj.ls.go aS aw;have b5:∀c∈(Qka (L op) op l).1,∃ (k:Nat) (f:Fm),(L op)[k]? = some f∧c.x=k:=λc am=>QFy am;have bI:(Qka (L op) op l).1.length<=288000:=QFz (by rw[<- ar,Nn];exact bE);generalize bH:(Qka (L op) op l).1=Q at *;obtain⟨aY,bd,rfl⟩:=aI.slc;obtain⟨⟨bg,bh,rfl,bq⟩,br⟩:=bC.fms;simp only[Qb,simprocAttr,Qr];refine Qp (λq A' H'=>∃i:Nat,i<=Q.length∧q=Q.length - i∧H'.Wf∧Ext H3 H'∧A' 1=.Z aa∧A' 2=.P H.next∧A' 7=.slice bg ab.length bh∧A' 20=.slice aY Q.length bd∧A' 21=.Z Q.length∧A' 22=.Z i∧byF (L op) (Q.take i) bs aa=false) Q.length ?_ ?_
 ·refine⟨0,L7 _,by omega,aj,.refl _,?_,?_,?_,?_,?_,?_,rfl⟩
  all_goals simp only[Qf,simprocAttr]
  all_goals rfl
 ·rintro q A' H' ⟨i,hi,rfl,ai,ae,r1,r2,aC,aA,aB,aq,au⟩;have ax:=bA.trans ae;have aH:=(ae.get _ (aj.lt g3)).trans g3;simp only[Qbu,Qb,simprocAttr,aB,aq];refine Qg (λad=>?_) (λad=>?_)
  ·have ad:i<Q.length:=by have:=Lg ad;omega
   obtain⟨ss,b7,bx,bw⟩:=(aI.go aj ae).it;obtain⟨b,rfl,bu⟩:∃b,aY=some ⟨b,0,none⟩∧H'.get b=some (.cells (ldC ss Q) 91 false):=by
    rcases bx with⟨h,h',_⟩ | ⟨b,c,h,bO,bF,_⟩
    ·omega
    ·cases h;exact⟨b,rfl,bF⟩
   obtain⟨sv,aR⟩:∃sv,ss[i]? = some sv:=⟨_,La (by omega)⟩;obtain⟨c,an⟩:∃c,Q[i]? = some c:=⟨_,La ad⟩;have aP:=bw i sv c aR an;have aL:=QsJ ss Q i sv c aR an;have b4:(ldC ss Q).length=Q.length * 3:=by rw[QnC _ _ b7]
   obtain⟨k,f,ao,aW⟩:=b5 c (Ln an);have bz:k<ab.length:=by have:=(Lk.1 ao).1;rw[<- ar,Nn]at this;exact this
   obtain⟨y,az⟩:∃y,ab[k]? = some y:=⟨_,La bz⟩;have bD:y.f=f:=by rw[<- ar,LD,az]at ao;exact Ly ao
   obtain⟨bf,aF,aX,rfl,aO⟩:=bq (by omega);have aN:H'.get bf=some (.cells (Wm ab) aF aX):=by rw[ae.get _ (aj.lt aO)];exact aO
   have bo:=GA ab k y az;have bJ:=WM ab;have aZ:=(br y (Ln az)).ext aj ae;have d1:(0:Int)<=i∧(i:Int)<Q.length:=by omega
   have d2:(0:Int)<=k∧(k:Int)<ab.length:=by omega
   have d3:(i:Int).toNat=i:=by omega
   have d4:(k:Int).toNat=k:=by omega
   have d5:decide ((k:Int)<ab.length)=true:=Lp d2.2;have d7:i * 3+3<=Q.length * 3:=by omega
   have aG:IntKind.i64.wrap ((i:Int)+1)=((i+1:Nat):Int):=by rw[w64 (by unfold I64;omega)];omega
   rw[aW]at aL;obtain⟨aD,aE,rfl⟩:=aP.slc;have av:QBV (L op) c.x aa=decide (0<=Qy y.f.shapes aa):=by unfold QBV;rw[aW,d4,ao,bD]
   have ac:byF (L op) (Q.take (i+1)) bs aa=(QeQ c.b bs&&decide (0<=Qy y.f.shapes aa)):=by
    have:byF (L op) (Q.take (i+1)) bs aa=(byF (L op) (Q.take i) bs aa||(QeQ c.b bs&&QBV (L op) c.x aa)):=by unfold byF;rw[Nv,an,Rz];simp
    rw[this,au,Nt,av]
   have b6:(H.next=H'.next)=False:=by simp;have:=ai.lt aH;omega
   simp only[Qbt,Qb,simprocAttr,r2,aA,aq,d1,d3,d7,bu,b4,aL,b6,aH];obtain⟨H4,al⟩:∃h,h=(H'.push (.cells [.slice none 0 0,.Z 0,.Z 0] 91 false)).set H'.next (.cells [.slice aD c.b.length aE,.Z k,.Z c.h] 91 false):=⟨_,rfl⟩;have ag:Ext H' H4:=by rw[al];exact((Ext.refl H').push _).set (Lb _) _
   have aT:H4.Wf:=by rw[al];exact(ai.push _).set (by rw[Qc,Lc rfl]) _
   have g4:H4.get H'.next=some (.cells [.slice aD c.b.length aE,.Z k,.Z c.h] 91 false):=by rw[al,Qh,Lc rfl]
   have bi:H4.get bf=some (.cells (Wm ab) aF aX):=(ag.get _ (ai.lt aN)).trans aN;simp only[<- al];have ay:=ax.trans ag;refine(QkW _ _ c.b bs H4 (aP.go ai ag).cellsB (aM.ext ah ay).cells).thenW ?_;rintro _ H4 _ _ ⟨rfl,rfl⟩;simp only[Qb,simprocAttr];cases aQ:QeQ c.b bs with
   | false=>
    rw[aQ,NG]at ac;simp only[Qb,simprocAttr,aq,aG];refine⟨Q.length - (i+1),by omega,i+1,by omega,rfl,aT,ae.trans ag,?_,?_,?_,?_,?_,?_,ac⟩
    all_goals simp only[Qf,simprocAttr,r1,r2,aC,aA,aB]
   | true=>
    rw[aQ,LJ]at ac;have b3:(Wm ab)[k * 10+1]? = some y.sv:=by
     have:=congrArg (λl=>l[1]?) bo;simpa[Nl,Nk,Lf.cells] using this
    simp only[Qb,simprocAttr,g4,r1,aC,d2,d4,Nf,bi,b3,Qr];refine(QlX _ y.f.shapes aa H4 (Qys (aZ.ext ai ag).2.2.1) aZ.1).thenW ?_;rintro _ H4 _ _ ⟨rfl,rfl⟩;simp only[Qb,simprocAttr];cases am:decide (0<=Qy y.f.shapes aa) with
    | false=>
     rw[am]at ac;simp only[Qb,simprocAttr,aq,aG];refine⟨Q.length - (i+1),by omega,i+1,by omega,rfl,aT,ae.trans ag,?_,?_,?_,?_,?_,?_,ac⟩
     all_goals simp only[Qf,simprocAttr,r1,r2,aC,aA,aB]
    | true=>
     rw[am]at ac;simp only[Qb,simprocAttr,QcE];refine .mk ay.next ⟨?_,ay⟩;have bn:byF (L op) Q bs aa=true:=by
      unfold byF at ac ⊢;obtain⟨x,hx,av⟩:=Bh.1 ac;exact Bh.2 ⟨x,List.mem_of_mem_take hx,av⟩
     rw[bn]
  ·have ad:i=Q.length:=by have:=Ll ad;omega
   subst ad;rw[Nr]at au;simp only[Qb,simprocAttr,QcE];exact .mk ax.next ⟨by rw[au],ax⟩
theorem QnG {op:Int}{va bv:Value}{l:List Ar}{bs:List Int}(is:Bool)(H:Qa)(ao:T H)(ag:QQ H va l)(ap:∀n,H.next<=n->Qj n 6 (.agg #[.Z op,va])=true)(aj:l.length<=1000)(an:∀a∈l,I64 a.n)(ai:ZJ H bv bs):
  Qe prog 21 [.agg #[bv,.Z op,va,.bool is]] H λu H'=>u=.Z (Qk8 (L op) op l bs)∧Ext H H':=by
 refine Qj2 λab=>?_;obtain⟨a0,cap,rfl⟩:=Wd ag;have ax:=ai;obtain⟨av,aw,rfl,_⟩:=ax;obtain⟨r,aa⟩:∃r,r=Qk8 (L op) op l bs:=⟨_,rfl⟩;rw[<- aa];unfold Qk8 at aa;simp only[Qbv,Wu,simprocAttr];generalize ae:Qa.push H _=H1;have g1:H1.get H.next=some (.cells [.slice av bs.length aw,.Z op,.slice a0 l.length cap,.bool is] 44 false):=by rw[<- ae,Qc,Lc rfl];rfl
 have aq:Ext H H1:=by rw[<- ae];exact(Ext.refl H).push _
 have az:H1.Wf:=by rw[<- ae];exact ab.push _
 clear ae;simp only[Qb,simprocAttr,g1];refine(Qju QFA _ l H1 (ag.ext ab aq) aj).thenW ?_;rintro _ H2 aC aA ⟨rfl,ar⟩;have g2:=(ar.get _ (az.lt g1)).trans g1;have ac:=aq.trans ar;simp only[Qb,simprocAttr];cases ak:l.any λa=>a.k==4 with
 | false=>
  rw[Lc ak]at aa;simp only[Qb,simprocAttr,Yl];exact .mk ac.next ⟨by rw[aa],ac⟩
 | true=>
  rw[Le (by rw[ak];decide)]at aa;simp only[Qb,simprocAttr,g2];refine(QsK hT hO is 26 H2 (hT _ _ ab ao ac) (ag.ext ab ac) (λn ay=>ap n (by have:=ac.next;omega)) aj an (ai.ext ab ac)).thenW ?_;rintro _ H3 aD aF ⟨rfl,au⟩;have g3:=(au.get _ (aA.lt g2)).trans g2;have ad:=ac.trans au;simp only[Qb,simprocAttr];cases al:byF (L op) (Qka (L op) op l).1 bs 26 with
  | true=>
   rw[Lc al]at aa;simp only[Qb,simprocAttr,Yl];exact .mk ad.next ⟨by rw[aa],ad⟩
  | false=>
   rw[Le (by rw[al];decide)]at aa;simp only[Qb,simprocAttr,g3];refine(QsK hT hO is 27 H3 (hT _ _ ab ao ad) (ag.ext ab ad) (λn ay=>ap n (by have:=ad.next;omega)) aj an (ai.ext ab ad)).thenW ?_;rintro _ H4 aE aG ⟨rfl,aB⟩;have ah:=ad.trans aB;simp only[Qb,simprocAttr];cases am:byF (L op) (Qka (L op) op l).1 bs 27 with
   | true=>
    rw[Lc am]at aa;simp only[Qb,simprocAttr,Yl];exact .mk ah.next ⟨by rw[aa],ah⟩
   | false=>
    rw[Le (by rw[am];decide)]at aa;simp only[Qb,simprocAttr,Yl];exact .mk ah.next ⟨by rw[aa],ah⟩
def QDm (L:List Fm)(op:Int)(l:List Ar)(bs:List Int)(is:Bool)(at_:Int):List UInt8:=
 if is=false then[100,98,32]++QeC (bs.getD 0 0) else(QxC op l (Qk8 L op l bs) (IntKind.i64.wrap (at_+bs.length))).1
theorem QnH (ao:QrH T){op:Int}{va bv:Value}{l:List Ar}{bs:List Int}(is:Bool)(at_:Int)(H:Qa)(ai:T H)(aj:QQ H va l)(av:∀n,H.next<=n->Qj n 6 (.agg #[.Z op,va])=true)(au:l.length<=1000)(am:∀a∈l,I64 a.n)(ap:ZJ H bv bs)(ah:0<bs.length)(aF:∀z∈bs,0<=z∧z<256):
  Qe prog 15 [.agg #[bv,.Z op,va,.bool is],.Z at_] H λu H'=>u=.string (mkS (QDm (L op) op l bs is at_))∧Ext H H':=by
 refine Qj1 λab=>?_;obtain⟨a0,cap,rfl⟩:=Wd aj;have ay:=ap;obtain⟨aH,al,rfl,_,_,_,_,e,az⟩:=ay;cases e;obtain⟨b,o,e,ro,cs,rfl,aq,aB⟩:=az ah;obtain⟨r,ac⟩:∃r,r=QDm (L op) op l bs is at_:=⟨_,rfl⟩;rw[<- ac];unfold QDm at ac;simp only[Qbq,Wu,simprocAttr];generalize ag:Qa.push H _=H1;have g1:H1.get H.next=some (.cells [.slice (some ⟨b,o,none⟩) bs.length al,.Z op,.slice a0 l.length cap,.bool is] 44 false):=by rw[<- ag,Qc,Lc rfl];rfl
 have aa:Ext H H1:=by rw[<- ag];exact(Ext.refl H).push _
 have ak:H1.Wf:=by rw[<- ag];exact ab.push _
 clear ag;have ar:=(aa.get _ (ab.lt aq)).trans aq;simp only[Qb,simprocAttr,g1];cases is with
 | false=>
  rw[Lc rfl]at ac;have aM:0<=bs.getD 0 0∧bs.getD 0 0<256:=by
   have h:bs[0]? = some (bs.getD 0 0):=by rw[LX,La ah];rfl
   exact aF _ (Ln h)
  have aA:cs[o]? = some (.int .u8 (bs.getD 0 0)):=aB 0 ah;have d1:(0:Int)<bs.length:=by omega
  have ax:IntKind.i64.wrap (bs.getD 0 0)=bs.getD 0 0:=w64 (by unfold I64;omega);have an:I64 (bs.getD 0 0):=by unfold I64;omega
  simp only[Qb,simprocAttr,LM,L8,g1,ar,d1,aA,ax];have aI:=Z9 _ an;refine(Kh ao.q _ an H1 (hT _ _ ab ai aa)).thenW ?_;rintro _ H2 aC aD ⟨rfl,ad⟩;have ae:=aa.trans ad;simp only[Qb,simprocAttr,Xh,QaH];refine⟨by omega,.mk ae.next ⟨by rw[ac];rfl,ae⟩⟩
 | true=>
  rw[Le (by decide)]at ac;simp only[Qb,simprocAttr,LM,L8];have lB:H.next<H1.next:=ak.lt g1;simp only[VV,Qb,simprocAttr,g1,lB];refine⟨av _ aa.next,?_⟩;refine(QnG hT hO true H1 (hT _ _ ab ai aa) (aj.ext ab aa) (λn aJ=>av n (by have:=aa.next;omega)) au am (ap.ext ab aa)).thenW ?_;rintro _ H2 aC aD ⟨rfl,ad⟩;have ae:=aa.trans ad;have g2:=(ad.get _ (ak.lt g1)).trans g1;have aG:Qj H2.next 6 (.slice (some ⟨b,o,none⟩) bs.length al)=true:=by
   have:=ak.lt ar;have:=ad.next;simp[Qj];omega
  simp only[Qb,simprocAttr];refine⟨ad.eqB,?_⟩;simp only[Qb,simprocAttr,g2,aG,Qr];refine(Qvw ao op _ l (aj.ext ab ae) au am _ _ (hT _ _ ab ai ae)).thenW ?_;rintro _ H3 aK aL ⟨rfl,aE⟩;have aw:=ae.trans aE;simp only[Qb,simprocAttr,QaH];exact .mk aw.next ⟨by rw[ac],aw⟩
end
structure QDw (bs:List Int) (r:Dr):Prop where
 n:InB bs r.n
 i:∀a∈r.l,I64 a.n
theorem QBY {bs:List Int}{op p:Int}{l:List Ar}(ad:InB bs p)(ab:∀a∈l,I64 a.n)(h:(QsL op p l).e=0):QDw bs (QsL op p l):=by
 unfold QsL at h ⊢;split
 ·rename_i aa;rw[Lc aa]at h;cases h
 ·rename_i aa;exact⟨ad,λa ac=>((Qxv ab (by simpa using aa)).2.2.2 a ac).n⟩
theorem QFP {bs:List Int}{c:Rr}(ag:bs.length<=1000000)(ae:InB bs c.p){n:Int}(ad:I64 n)(h:(QtS bs c n).e=0):QDw bs (QtS bs c n):=by
 unfold QtS at h ⊢;split
 ·rename_i aa;rw[Lc aa]at h;split
  ·rename_i ab;rw[Lc ab]at h;cases h
  ·rename_i ab;rw[Le ab]at h;split
   ·rename_i ac;rw[Lc ac]at h;cases h
   ·rename_i ac;rw[Le ac]at h;exact QBY (InB.wrap ag ⟨by have:=ae.1;omega,by omega⟩) (Qwo _ _ _ ad) h
 ·rename_i aa;rw[Le aa]at h;exact QBY ae (Qwo _ _ _ ad) h
theorem QKB {bs:List Int}{c:Rr}(ad:bs.length<=1000000)(ae:InB bs c.p)(h:(QoT bs c).e=0):QDw bs (QoT bs c):=by
 unfold QoT at h ⊢;split
 ·rename_i ab;rw[Lc ab]at h;split
  ·rename_i aa;rw[Lc aa]at h;have ac:(XM bs c.p (tl1 c.x.f) true).2=0:=h;rw[ac]at aa;cases aa
  ·rename_i aa;rw[Le aa]at h;have ac:((XM bs c.p (tl1 c.x.f) true).2==0)=true:=by simpa using aa
   have ag:=QsM _ _ _ _ ac;have ah:=Qsu c.x.f;exact QFP ad (InB.wrap ad ⟨by have:=ae.1;omega,by omega⟩) (QyG _ _ _ _) h
 ·rename_i ab;rw[Le ab]at h;exact QFP ad ae (by unfold I64;omega) h
theorem QKC {bs:List Int}(aa:bs.length<=1000000)(c:Rr)(ae:InB bs c.p):InB bs (rdM bs c).2.p:=by
 have ab:=(QBX aa ae).2.2;unfold rdM rdO rdH;cases ad:(QbR bs c).1==0 with
 | false=>
  simp only[Ls,ad];exact ab
 | true=>
  simp only[Lq];have ac:=(QIK aa ab).2.2;cases ag:(opF bs (QbR bs c).2).1==0 with
  | false=>simp only[Ls];exact ac
  | true=>simp only[Lq];exact(QFH aa ac).2.2
theorem QIk {bs:List Int}(ab:bs.length<=1000000)(f:Fm)(h:(Vz bs f).e=0):QDw bs (Vz bs f):=by
 unfold Vz QsN at h ⊢;have ac:=QKC ab (rd0 ⟨f,.slice none 0 0,.slice none 0 0⟩ (.slice none 0 0)) (InB.zero bs);generalize rdM bs (rd0 ⟨f,.slice none 0 0,.slice none 0 0⟩ (.slice none 0 0))=c at *;cases aa:c.1==0 with
 | false=>
  rw[aa]at h;simp only[Ls]at h;have ad:c.1=0:=h;rw[ad]at aa;cases aa
 | true=>
  rw[aa]at h;simp only[Lq]at h ⊢;exact QKB ab ac h
theorem QFQ {bs:List Int}(ac:bs.length<=1000000):∀ (l:List Fm) (err:Int),err≠0->(QsP bs l err).e=0->QDw bs (QsP bs l err)∧(QsP bs l err).l.length<=5
 | [],err,h0,h=>absurd h h0
 | f::l,err,h0,h=>by
  unfold QsP at h ⊢;split
  ·rename_i aa;have ab:=QIk ac f (by simpa using aa);exact⟨⟨ab.n,ab.i⟩,QDv bs f⟩
  ·rename_i aa;rw[Le aa]at h;exact QFQ ac l _ (by split;decide;exact h0) h
structure Pc where
 at_:Nat
 bs:List Int
 op:Int
 l:List Ar
 is:Bool
def QnJ (L:List Fm)(w:List Int):Dr:=QsP w (Qbe w true 0 L) 4
def isP (r:Dr):Bool:=(r.e==0)&&decide (0<r.n)
def Y2 (L:List Fm)(b:List Int)(a:Nat):Pc:=if isP (QnJ L ((b.drop a).take 15))=true then⟨a,(b.drop a).take (QnJ L ((b.drop a).take 15)).n.toNat,(QnJ L ((b.drop a).take 15)).op,(QnJ L ((b.drop a).take 15)).l,true⟩ else⟨a,(b.drop a).take 1,0,[],false⟩
def XA (L:List Fm)(b:List Int):Nat->Nat->List Pc
 | 0,_=>[]
 | k+1,a=>if a<b.length then Y2 L b a::XA L b k (a+(Y2 L b a).bs.length) else[]
theorem Qwr {L:List Fm}{w:List Int}(ab:w.length<=1000000)(h:isP (QnJ L w)=true):QDw w (QnJ L w)∧(QnJ L w).l.length<=5∧0<(QnJ L w).n:=by
 unfold isP at h;rw[Lm]at h;have aa:=QFQ ab _ 4 (by decide) (eq_of_beq h.1);exact⟨aa.1,aa.2,Lg h.2⟩
theorem Qga {L:List Fm}{b:List Int}{a:Nat}(ad:a<b.length):0<(Y2 L b a).bs.length∧a+(Y2 L b a).bs.length<=b.length:=by
 unfold Y2;split
 ·rename_i h;have ae:((b.drop a).take 15).length<=15:=by rw[Sb];omega
  obtain⟨aa,_,ac⟩:=Qwr (by omega) h;have ab:=aa.n.2;rw[Sb,NT]at ab;simp only[Sb,NT];omega
 ·simp only[Sb,NT];omega
def inS (v:Value)(id:Nat):Prop:=∃a n c,v=.slice (some a) n c∧a.block=id
def PcV (o:Int)(l:Nat)(H:Qa)(p:Pc)(vs:List Value):Prop:=∃bv va,vs=[.Z (IntKind.i64.wrap (o+p.at_)),.agg #[bv,.Z p.op,va,.bool p.is]]∧ZJ H bv p.bs∧QQ H va p.l∧(∀id,inS bv id->id≠l∧id<H.next)∧∀id,inS va id->id≠l∧id<H.next
def PW (fl:Bool)(W Q:List Pc):Prop:=∃m,W=Q.take m∧(fl=true->Q.length<=m)∧(fl=false->0<m∧m<=Q.length)
theorem PW.all {W:List Pc}{Q:List Pc}(h:W=Q):PW true W Q:=⟨Q.length,by rw[Nr,h],λ_=>Lb _,λh=>by cases h⟩
theorem PW.cons {fl:Bool}{W Q:List Pc}{q:Pc}{j:Nat}(h:PW fl (W.drop j) (q::Q)):W[j]? = some q∧((fl||decide (j+1<W.length))=true->PW fl (W.drop (j+1)) Q)∧((fl||decide (j+1<W.length))=false->j+1=W.length):=by
 obtain⟨m,ab,ac,ad⟩:=h;obtain⟨m,rfl⟩:∃n,m=n+1:=⟨m - 1,by cases fl<;>simp at ac ad<;>omega⟩;rw[List.take_succ_cons]at ab;have e1:W[j]? = some q:=by
  have:=congrArg (λl=>l[0]?) ab;simpa[Nk] using this
 have e2:W.drop (j+1)=Q.take m:=by
  have:=congrArg (λl=>l.drop 1) ab;simpa[Rc] using this
 have e3:=congrArg List.length e2;rw[NT,Sb]at e3;have e4:=(Lk.1 e1).1;refine⟨e1,λh=>⟨m,e2,λaa=>by have:=ac aa;simp at this;omega,λaa=>?_⟩,λh=>?_⟩
 ·have ae:=(ad aa).2;rw[aa]at h;have ag:j+1<W.length:=by simpa using h
  rw[Lo]at ae;omega
 ·have ag:¬j+1<W.length:=by cases fl<;>simp at h ⊢;omega
  omega
structure QIl (fl:Bool) (l:Nat) (items:List Pc) (It:Qa->Pc->List Value->Prop) (R:Nat->Qa->Prop) (Own:Qa->Nat->Prop):Prop where
 ext:∀j H H',R j H->H.Wf->Ext H H'->R j H'∧∀id,Own H' id->Own H id
 low:∀j H id,R j H->Own H id->id<H.next
 go:∀j w H vs,items[j]? = some w->R j H->H.Wf->It H w vs->YQ prog l vs H λu H'=>u=.bool (fl||decide (j+1<items.length))∧R (j+1) H'∧CK Own H H'
theorem QIl.ck {fl:Bool}{l:Nat}{ae:List Pc}{It:Qa->Pc->List Value->Prop}{R:Nat->Qa->Prop}{Own:Qa->Nat->Prop}(h:QIl fl l ae It R Own){j:Nat}{H H':Qa}(ab:R j H)(ac:H.Wf)(hx:Ext H H')(ad:H'.Wf):CK Own H H':=
 ⟨hx.next,ad,λid aa _=>hx.get id aa,λid aa=>.inl ((h.ext j H H' ab ac hx).2 id aa)⟩
theorem QBb {A:Env}{H:Qa}{k:Value->Qa->Prop}{x y:Operand}{aa:Array TypeId}{ik:IntKind}{a b:Int}(hx:ev A x=.int ik a)(ab:ev A y=.int ik b):pr prog (.gen (.call ⟨.builtin .min,#[x,y],aa⟩)) false A H k=k (.int ik (if b<a then b else a)) H:=by
 have e:rop prog (.gen (.call ⟨.builtin .min,#[x,y],aa⟩)) A H=some (.int ik (if b<a then b else a),H):=by simp[rop,aop,QaP,hx,ab]
 refine(Q4 _).trans ?_;rw[e,Qs]
theorem QIL {H:Qa}{v:Value}{bs:List Int}(h:ZJ H v bs)(aa:0<bs.length){id:Nat}(hi:inS v id):∃cs e ro,H.get id=some (.cells cs e ro):=by
 obtain⟨a,cap,rfl,_,_,a1,c1,e1,ab⟩:=h;cases e1;obtain⟨b,o,e,ro,cs,rfl,ac,_⟩:=ab aa;obtain⟨ad,ae,c',e2,rfl⟩:=hi;cases e2;exact⟨cs,e,ro,ac⟩
theorem QKD {b:List Int}{a n:Nat}(aa:n=if a+15<b.length then 15 else b.length - a):(b.drop a).take n=(b.drop a).take 15:=by
 subst aa;split
 ·rfl
 ·rw[LF (by rw[NT];exact Lb _),LF (by rw[NT];omega)]
theorem QoV (f:Fm):∀ (b:List Int) (aa:Bool) (d:Nat) (L:List Fm),f∈Qbe b aa d L->f∈L
 | [],_,_,_,h=>h
 | c::cs,aa,d,L,h=>by
  unfold Qbe at h;cases ab:QyM d L with
  | false=>rw[ab,Ls]at h;exact h
  | true=>
   rw[ab,Lq]at h;cases ac:aa&&QyN c with
   | true=>rw[ac,Lq]at h;exact QoV f cs _ _ _ h
   | false=>rw[ac,Ls]at h;exact(Bo.1 (QoV f cs _ _ _ h)).1
theorem ZJ.bsAt {H:Qa}{v:Value}{bs:List Int}(h:ZJ H v bs):Qwq H v bs:=by
 obtain⟨a,cap,rfl,_,_,a1,c1,e,ab⟩:=h;cases e;refine⟨_,_,rfl,λaa=>?_⟩;obtain⟨b,o,e,ro,cs,ac,ad,ae⟩:=ab aa;exact⟨b,o,cs,e,ro,ac,ad,ae⟩
theorem QuL {fl:Bool}{l aa a:Nat}{R:Nat->Qa->Prop}{Own:Qa->Nat->Prop}{o:Int}{W:List Pc}(av:QIl fl l W (PcV o l) R Own){j:Nat}{p:Pc}(aw:W[j]? = some p)(ay:p.at_=a)(aF:p.bs.length<=65536)(aC:a<=65536){ks:Kp}{K:Env->Qa->Prop}{A:Env}{H:Qa}{bv va:Value}{bB oB an:Nat}(ah:H.Wf)(ar:R j H)(aq:H.get oB=some (.cells [.Z o] an false))(ab:H.get aa=some (.cells [bv,.Z p.op,va,.bool p.is] 44 false))(aB:¬Own H aa)
  (ae:ZJ H bv p.bs) (ag:QQ H va p.l) (au:∀id,inS bv id->id≠l∧id<H.next) (aA:∀id,inS va id->id≠l∧id<H.next) (r0:A 0=.func (.yield l) #[] #[]) (r1:A 1=.P bB) (r2:A 2=.P oB) (r4:A 4=.Z a) (ai:A 5=.P aa)
  (az:∀A' H',(fl||decide (j+1<W.length))=false->R (j+1) H'->CK Own H H'->ks.ret A' H')
  (ax:∀A' H',(fl||decide (j+1<W.length))=true->R (j+1) H'->CK Own H H'->A' 0=.func (.yield l) #[] #[]->A' 1=.P bB->A' 2=.P oB->A' 4=.Z ((a+p.bs.length:Nat):Int)->K A' H'):
  Qk prog YH ks K A H:=by
 obtain⟨al,am,rfl,aD⟩:=id ae;obtain⟨aj,ak,rfl,_⟩:=id ag;have ao:IntKind.i64.wrap ((a:Int)+(p.bs.length:Int))=((a+p.bs.length:Nat):Int):=by rw[w64 (by unfold I64;omega)];omega
 simp only[YH,Qb,simprocAttr,r0,r2,r4,ai,aq,ab,Zz];refine QgM (av.go j p H _ aw ar ah ⟨.slice al p.bs.length am,.slice aj p.l.length ak,by rw[ay],ae,ag,au,aA⟩) ?_;rintro _ H2 aE aG ⟨rfl,ad,ac⟩;have ap:=(ac.keep _ (ah.lt ab) aB).trans ab;cases z:(fl||decide (j+1<W.length)) with
 | false=>
  simp only[Qb,simprocAttr,LM];exact az _ _ z ad ac
 | true=>
  simp only[Qb,simprocAttr,L8,r4,ai,ap,Qr,ao];refine ax _ _ z ad ac ?_ ?_ ?_ ?_
  all_goals simp only[Qf,simprocAttr,r0,r1,r2]
section
variable {T:Qa->Prop} {L:List Fm} (hT:∀H H',H.Wf->T H->Ext H H'->T H') (hR0:∀H,T H->Qe prog 48 [] H λu H'=>QaY H H' u L) (hty:QhN 64) (hsl:∀f∈L,f.shapes.length=f.slots.length)
include hT hR0 hty hsl
theorem Qap {fl:Bool}{l bB oB bh bi:Nat}{R:Nat->Qa->Prop}{Own:Qa->Nat->Prop}{bv:Value}{b:List Int}{o:Int}{W:List Pc}{H0:Qa}(ap:H0.Wf)(bS:T H0)(aO:ZJ H0 bv b)(c5:b.length<=65536)(H:Qa)(aJ:Ext H0 H)
  (gB:H.get bB=some (.cells [bv] bh false)) (bm:H.get oB=some (.cells [.Z o] bi false)) (nB:¬Own H bB) (nO:¬Own H oB)
  (ca:∀j H id,R j H->Own H id->H0.next<=id) (c7:H0.next<=l) (c8:l<H.next) (bU:PW fl W (XA L b b.length 0)) (ai:QIl fl l W (PcV o l) R Own) (br:R 0 H):
  Qe prog 23 [.func (.yield l) #[] #[],.P bB,.P oB] H λu H'=>R W.length H'∧CK Own H H':=by
 refine QmF λaY=>?_;simp only[QdT,Wu,simprocAttr];refine Qp (λm A' H'=>∃a k j:Nat,a<=b.length∧m=b.length - a∧b.length<=a+k∧j<=W.length∧PW fl (W.drop j) (XA L b k a)∧R j H'∧CK Own H H'∧Ext H0 H'∧A' 0=.func (.yield l) #[] #[]∧A' 1=.P bB∧A' 2=.P oB∧A' 4=.Z a) b.length ?_ ?_
 ·refine⟨0,b.length,0,L7 _,by omega,by omega,L7 _,bU,br,⟨Lb _,aY,λ_ _ _=>rfl,λ_ h=>.inl h⟩,aJ,?_,?_,?_,?_⟩
  all_goals simp only[Qf,simprocAttr]
  all_goals rfl
 ·rintro m A' H1 ⟨a,k,j,cy,rfl,b6,c6,aH,am,ae,aq,r0,r1,r2,r4⟩;have ac:=ae.w;have lB:=aY.lt gB;have cm:=aY.lt bm;have aC:H1.get bB=some (.cells [bv] bh false):=(ae.keep _ lB nB).trans gB;have aD:H1.get oB=some (.cells [.Z o] bi false):=(ae.keep _ cm nO).trans bm;have bw:=aO.ext ap aq;have bW:=bw;obtain⟨cv,cw,rfl,cz,c4,_⟩:=bW;simp only[Qbs,Qb,simprocAttr,r1,r4,aC,Qr];refine Qg (λab=>?_) (λab=>?_)
  ·have ab:a<b.length:=by have:=Lg ab;omega
   have aw:IntKind.i64.wrap ((a:Int)+1)=((a+1:Nat):Int):=by rw[w64 (by unfold I64;omega)];omega
   obtain⟨ct,bJ,aP⟩:=aO.sub (p:=a) (n:=1) (by omega);simp only[Qbr,Qb,simprocAttr,r1,r4,aC,aw];refine⟨ct,bJ,?_⟩;obtain⟨bC,bD,rfl,_⟩:=id aP;have cj:∃n,n=(if a+15<b.length then 15 else b.length - a):=⟨_,rfl⟩;obtain⟨n,aU⟩:=cj;have cb:a+n<=b.length∧n<=15:=by subst aU;split<;>omega
   have bG:IntKind.i64.wrap ((a:Int)+15)=(a:Int)+15:=w64 (by unfold I64;omega);have bI:(if(a:Int)+15<(b.length:Int) then(a:Int)+15 else(b.length:Int))=((a+n:Nat):Int):=by subst aU;split<;>split<;>omega
   obtain⟨H2,aE⟩:∃h,h=(H1.push (.cells [.slice none 0 0,.Z 0,.slice none 0 0,.bool false] 44 false)).set H1.next (.cells [.slice bC ((b.drop a).take 1).length bD,.Z 0,.slice none 0 0,.bool false] 44 false):=⟨_,rfl⟩;have an:Ext H1 H2:=by rw[aE];exact((Ext.refl H1).push _).set (Lb _) _
   have az:H2.Wf:=by rw[aE];exact(ac.push _).set (by rw[Qc,Lc rfl]) _
   have g2:H2.get H1.next=some (.cells [.slice bC ((b.drop a).take 1).length bD,.Z 0,.slice none 0 0,.bool false] 44 false):=by rw[aE,Qh,Lc rfl]
   have aL:=(an.get _ (ac.lt aC)).trans aC;have bn:=(an.get _ (ac.lt aD)).trans aD;simp only[Qb,simprocAttr,Lo,L9,List.drop_succ_cons,Lw,Nm,LH];simp only[<- aE,Qb,simprocAttr,r1,r4,aL,Qr,bG];rw[QBb (ik:=.i64) (a:=b.length) (b:=(a:Int)+15) (by simp only[Qf,simprocAttr]) (by simp only[Qf,simprocAttr])];rw[bI];obtain⟨bg,bK,bx⟩:=bw.sub (p:=a) (n:=n) cb.1;rw[QKD aU]at bx;simp only[Qb,simprocAttr];refine⟨bg,bK,?_⟩;have bT:T H2:=hT _ _ ap bS (aq.trans an);have c9:((b.drop a).take 15).length<=15:=by rw[Sb];omega
   have q:Qe prog 8 [bg] H2 (Qk9 H2 (QnJ L ((b.drop a).take 15))):=Qqw hR0 hty (λf bY=>hsl f (QoV f _ _ _ _ bY)) bg hT H2 bT (bx.ext ac an).bsAt (by omega);have cf:=@Qwr L ((b.drop a).take 15) (by omega);have aI:Y2 L b a=if isP (QnJ L ((b.drop a).take 15))=true then⟨a,(b.drop a).take (QnJ L ((b.drop a).take 15)).n.toNat,(QnJ L ((b.drop a).take 15)).op,(QnJ L ((b.drop a).take 15)).l,true⟩ else⟨a,(b.drop a).take 1,0,[],false⟩:=rfl
   have aa:=@Qga L b a ab;generalize QnJ L ((b.drop a).take 15)=r at *;refine q.thenW ?_;rintro _ H3 cH aA ⟨aB,cP,rfl,b7,b3⟩;obtain⟨aj,ak,rfl,_⟩:=id b7;have g3:=(aB.get _ (az.lt g2)).trans g2;have bj:=(aB.get _ (az.lt aL)).trans aL;have bo:=(aB.get _ (az.lt bn)).trans bn;have cl:=an.trans aB;obtain⟨H4,aF⟩:∃h,h=(H3.push (.cells [.Z 0,.slice none 0 0] 33 false)).set H3.next (.cells [.Z r.op,.slice aj r.l.length ak] 33 false):=⟨_,rfl⟩;have av:Ext H3 H4:=by rw[aF];exact((Ext.refl H3).push _).set (Lb _) _
   have aZ:H4.Wf:=by rw[aF];exact(aA.push _).set (by rw[Qc,Lc rfl]) _
   have g4:H4.get H3.next=some (.cells [.Z r.op,.slice aj r.l.length ak] 33 false):=by rw[aF,Qh,Lc rfl]
   have aM:=(av.get _ (aA.lt g3)).trans g3;have bM:=(av.get _ (aA.lt bj)).trans bj;have bN:=(av.get _ (aA.lt bo)).trans bo;have ar:=cl.trans av;simp only[Qb,simprocAttr];simp only[<- aF];have bV:W[j]? = some (Y2 L b a)∧∃ag,k=ag+1∧((fl||decide (j+1<W.length))=true->PW fl (W.drop (j+1)) (XA L b ag (a+(Y2 L b a).bs.length)))∧((fl||decide (j+1<W.length))=false->j+1=W.length):=by
    cases k with
    | zero=>omega
    | succ ag=>
     have ah:XA L b (ag+1) a=Y2 L b a::XA L b ag (a+(Y2 L b a).bs.length):=by show(if a<b.length then _ else _)=_;rw[Lc ab]
     rw[ah]at aH;exact⟨aH.cons.1,ag,rfl,aH.cons.2⟩
   obtain⟨ay,ag,rfl,aG,bu⟩:=bV;have b5:=(Lk.1 ay).1;have cJ:=aa.1;have bA:∀H',CK Own H H'->Ext H0 H':=λH' bz=>⟨by have:=aJ.next;have:=bz.next;omega,λid bZ=>by
    rw[bz.keep id (by have:=aJ.next;omega) (λaV=>by have:=ca 0 H id br aV;omega)];exact aJ.get id bZ⟩
   have bq:∀H5,Ext H1 H5->¬Own H5 H1.next:=λH5 hx aV=>by
    have:=ai.low j H1 _ am ((ai.ext j H1 H5 am ac hx).2 _ aV);omega
   have cK:∀H5,Ext H3 H5->∀id,inS (.slice aj r.l.length ak) id->id≠l∧id<H5.next:=λH5 hx id ⟨a',n',c',e,aw⟩=>by
    cases e;subst aw;have ah:=b3 _ _ _ rfl;have aN:=hx.next;have bp:=an.next;have cx:=ae.next;omega
   have cG:H0.next<=H1.next:=aq.next;have b2:isP r=false->∀ (A5:Env),A5 0=.func (.yield l) #[] #[]->A5 1=.P bB->A5 2=.P oB->A5 4=.Z a->A5 5=.P H1.next->∀ (ks:Kp) (K:Env->Qa->Prop),(∀A' H',R W.length H'->CK Own H H'->ks.ret A' H')->(∀A' H',(∃aK,aK<b.length - a∧∃a k j:Nat,a<=b.length∧aK=b.length - a∧b.length<=a+k∧j<=W.length∧PW fl (W.drop j) (XA L b k a)∧R j H'∧CK Own H H'∧Ext H0 H'∧A' 0=.func (.yield l) #[] #[]∧A' 1=.P bB∧A' 2=.P oB∧A' 4=.Z a)->K A' H')->Qk prog YH ks K A5 H4:=by
    intro cd A5 cn co cp cq cr ks K cg b6;rw[cd,Le (by decide)]at aI;rw[aI]at ay aG aa;have aR:=ae.trans (ai.ck am ac ar aZ);have cD:((b.drop a).take 1).length<=1:=by rw[Sb];omega
    refine QuL (a:=a) ai ay rfl (by show((b.drop a).take 1).length<=65536;omega) (by omega) aZ (ai.ext j H1 H4 am ac ar).1 bN aM (bq H4 ar) (aP.ext ap (aq.trans ar)) ⟨none,0,rfl,λh=>absurd h (NX 0)⟩ (λid hi=>?_) (λid ⟨a',n',c',e,_⟩=>by cases e) cn co cp cq cr (λA' H' z al ad=>cg A' H' (bu z▸al) (aR.trans ad)) ?_
    ·obtain⟨cs,e,ro,ax⟩:=QIL aP aa.1 hi;have ah:=ap.lt ax;have:=ar.next;omega
    ·intro A' H' z al ad p0 ba bc bd;exact b6 A' H' ⟨b.length - (a+((b.drop a).take 1).length),by have:=aa.1;have:=aa.2;simp only at *;omega,_,ag,j+1,aa.2,rfl,by have:=aa.1;simp only at *;omega,b5,aG z,al,aR.trans ad,bA _ (aR.trans ad),p0,ba,bc,bd⟩
   have aX:∀ (A':Env) H',R W.length H'->CK Own H H'->Rt prog Tryz.f23 H (λu H'=>R W.length H'∧CK Own H H') A' H':=λA' H' bR ab=>by
    simp only[QcD];exact .mk ab.next ⟨bR,ab⟩
   cases aT:r.e==0 with
   | false=>
    simp only[Qb,simprocAttr];refine b2 (by unfold isP;rw[aT];rfl) _ ?_ ?_ ?_ ?_ ?_ _ _ aX (λA' H' h=>h)
    all_goals simp only[Qf,simprocAttr,r0,r1,r2,r4]
   | true=>
    simp only[Qb,simprocAttr];refine Qg (λaW=>?_) (λaW=>?_)
    ·have b4:isP r=true:=by unfold isP;rw[aT,aW];rfl
     obtain⟨bX,cC,cE⟩:=cf b4;rw[b4,Lc rfl]at aI;rw[aI]at ay aG aa;have ce:=bX.n.2;rw[Sb,NT]at ce;have cc:a+r.n.toNat<=b.length:=by omega
     have bH:IntKind.i64.wrap ((a:Int)+r.n)=((a+r.n.toNat:Nat):Int):=by rw[w64 (by unfold I64;omega)];omega
     obtain⟨cQ,bL,aQ⟩:=aO.sub (p:=a) (n:=r.n.toNat) cc;obtain⟨bE,bF,rfl,_⟩:=id aQ;simp only[Qb,simprocAttr,r1,r4,bM,bH];refine⟨_,bL,?_⟩;have cO:(H1.next=H3.next)=False:=by simp;have:=an.next;have:=aB.next;have:=az.lt g2;omega
     simp only[Qb,simprocAttr,g4,aM];obtain⟨H5,ao⟩:∃h,h=H4.set H1.next (.cells [.slice bE ((b.drop a).take r.n.toNat).length bF,.Z r.op,.slice aj r.l.length ak,.bool true] 44 false):=⟨_,rfl⟩;have au:Ext H1 H5:=by rw[ao];exact ar.set (Lb _) _
     have b9:H5.Wf:=by rw[ao];exact aZ.set aM _
     have bP:H5.get H1.next=some (.cells [.slice bE ((b.drop a).take r.n.toNat).length bF,.Z r.op,.slice aj r.l.length ak,.bool true] 44 false):=by rw[ao,Qh,Lc rfl]
     have bO:=(au.get _ (ac.lt aD)).trans aD;have cI:H5.next=H4.next:=by rw[ao];rfl
     have b8:∀id,inS (.slice aj r.l.length ak) id->H1.next<id∧id<H3.next:=λid ⟨a',n',c',e,aw⟩=>by
      cases e;subst aw;have ah:=b3 _ _ _ rfl;have aN:=az.lt g2;omega
     have ci:QQ H5 (.slice aj r.l.length ak) r.l:=by
      obtain⟨a0,c0,e,ch⟩:=b7.ext aA av;cases e;refine⟨_,_,rfl,λbQ=>?_⟩;obtain⟨b1,e1,ro,rfl,ax⟩:=ch bQ;have:=(b8 b1 ⟨_,_,_,rfl,rfl⟩).1;exact⟨b1,e1,ro,rfl,by rw[ao,Qh,Le (by omega)];exact ax⟩
     have aS:=ae.trans (ai.ck am ac au b9);simp only[<- ao];refine QuL (a:=a) (bB:=bB) ai ay rfl (by show((b.drop a).take r.n.toNat).length<=65536;rw[Sb,NT];omega) (by omega) b9 (ai.ext j H1 H5 am ac au).1 bO bP (bq H5 au) (aQ.ext ap (aq.trans au)) ci (λid hi=>?_) (λid hi=>?_) ?_ ?_ ?_ ?_ ?_ (λA' H' z al ad=>aX A' H' (bu z▸al) (aS.trans ad)) ?_
     ·obtain⟨cs,e,ro,ax⟩:=QIL aQ aa.1 hi;have ah:=ap.lt ax;have:=au.next;omega
     ·have ah:=b8 id hi;have:=av.next;have:=aq.next;have:=ae.next;refine⟨?_,by omega⟩;omega
     all_goals try simp only[Qf,simprocAttr,r0,r1,r2,r4]
     intro A' H' z al ad p0 ba bc bd;exact⟨b.length - (a+((b.drop a).take r.n.toNat).length),by have:=aa.1;have:=aa.2;simp only at *;omega,_,ag,j+1,aa.2,rfl,by have:=aa.1;simp only at *;omega,b5,aG z,al,aS.trans ad,bA _ (aS.trans ad),p0,ba,bc,bd⟩
    ·simp only[Qb,simprocAttr];refine b2 (by unfold isP;rw[aT,aW];rfl) _ ?_ ?_ ?_ ?_ ?_ _ _ aX (λA' H' h=>h)
     all_goals simp only[Qf,simprocAttr,r0,r1,r2,r4]
  ·have ab:¬a<b.length:=by have:=Ll ab;omega
   have ah:W.drop j=[]:=by
    obtain⟨aK,bp,_⟩:=aH;rw[bp];cases k with
    | zero=>exact List.take_nil
    | succ k=>show(if a<b.length then _ else _:List Pc).take aK=_;rw[Le ab];exact List.take_nil
   have aN:j=W.length:=by have:=List.drop_eq_nil_iff.1 ah;omega
   subst aN;simp only[Qb,simprocAttr,QcD];exact .mk ae.next ⟨am,ae⟩
end
structure Sv where
 at_:Int
 bs:List Int
 tx:List UInt8
 is:Bool
def svC (ss:List Value)(ws:List Sv):List Value:=(ss.zip ws).flatMap λp=>[.Z p.2.at_,p.1,.string (mkS p.2.tx),.bool p.2.is]
theorem QBZ:∀ (ss:List Value) (ws:List Sv),ss.length=ws.length->(svC ss ws).length=ws.length * 4
 | [],[],_=>rfl
 | s::ss,w::ws,h=>by
  have:=QBZ ss ws (by simpa using h);unfold svC at *;simp only[BF,Ba,Lh,Lo,L9,this];omega
theorem QFR (ss:List Value)(ws:List Sv)(h:ss.length=ws.length)(s:Value)(w:Sv):svC (ss++[s]) (ws++[w])=svC ss ws++[.Z w.at_,s,.string (mkS w.tx),.bool w.is]:=by
 unfold svC;rw[List.zip_append h,Bm];rfl
structure Qb7 (H0 H:Qa) (v:Value) (ws:List Sv):Prop where
 it:∃ss:List Value,ss.length=ws.length∧Gx 4 29 H0 H v ws.length (svC ss ws)∧∀ (j:Nat) s w,ss[j]? = some s->ws[j]? = some w->Gx 1 5 H0 H s w.bs.length (bys w.bs)
section
variable {H0 H H' H1:Qa} {v:Value} {ws:List Sv}
theorem Qb7.nil (H0 H:Qa):Qb7 H0 H (.slice none 0 0) []:=⟨[],rfl,.inl ⟨rfl,rfl,rfl⟩,λj s w h=>by simp at h⟩
theorem Qb7.go (h:Qb7 H0 H v ws)(aa:H.Wf)(hx:Ext H H'):Qb7 H0 H' v ws:=by
 obtain⟨ss,ab,ac,ad⟩:=h.it;exact⟨ss,ab,ac.go aa hx,λj s w ae ag=>(ad j s w ae ag).go aa hx⟩
theorem Qb7.slc (h:Qb7 H0 H v ws):∃a c,v=.slice a ws.length c:=by
 obtain⟨ss,ab,aa,ac⟩:=h.it;exact aa.slc
theorem Qb7.down (h:Qb7 H1 H v ws)(hx:H0.next<=H1.next):Qb7 H0 H v ws:=by
 obtain⟨ss,aa,ab,ac⟩:=h.it;exact⟨ss,aa,ab.down hx,λj s w ad ae=>(ac j s w ad ae).down hx⟩
theorem Qb7.keep (h:Qb7 H0 H v ws)(ae:∀id,H0.next<=id->(inB v id∨∃cs,H.get id=some (.cells cs 5 false))->H'.get id=H.get id):Qb7 H0 H' v ws:=by
 obtain⟨ss,ag,aa,ah⟩:=h.it;refine⟨ss,ag,?_,λj s w ai aj=>?_⟩
 ·rcases aa with aa | ⟨b,c,rfl,ab,ac,ad⟩
  ·exact .inl aa
  ·exact .inr ⟨b,c,rfl,ab,by rw[ae b ab (.inl ⟨_,_,_,rfl⟩)];exact ac,ad⟩
 ·rcases ah j s w ai aj with aa | ⟨b,c,rfl,ab,ac,ad⟩
  ·exact .inl aa
  ·exact .inr ⟨b,c,rfl,ab,by rw[ae b ab (.inr ⟨_,ac⟩)];exact ac,ad⟩
end
theorem QKE {bytes:Nat}{H0 H:Qa}{v s:Value}{w:Sv}{ws:List Sv}{k:Value->Qa->Prop}{x:Value}(ar:Qb7 H0 H v ws)(hx:Ext H0 H)(al:H.Wf)(ak:Gx 1 5 H0 H s w.bs.length (bys w.bs))(ay:YX 4 x H=some (1,[.Z w.at_,s,.string (mkS w.tx),.bool w.is]))(ap:(ws.length+1) * bytes<=140737488355328)(au:ws.length+1<=9223372036854775807)
  (h:∀ae H',Qb7 H0 H' ae (ws++[w])->GK v ae H0 H H'->k ae H'):Qdv 29 4 bytes v x H k:=by
 obtain⟨ss,ah,ag,ao⟩:=ar.it;have aw:([.Z w.at_,s,.string (mkS w.tx),.bool w.is]:List Value).all (·.oneCell')=true:=by
  obtain⟨a,c,rfl⟩:=ak.slc;rfl
 refine Qdk ag hx al ay aw rfl ap au ?_;intro ae H' aq aj;refine h ae H' ⟨ss++[s],by simp[ah],?_,λj az w' aa ac=>?_⟩ aj
 ·rw[QFR _ _ ah,Lh];exact aq
 ·have av:∀id c',H.get id=some (.cells c' 5 false)->¬inB v id:=λid c' ai hi=>by
   obtain⟨o,aA,c,rfl⟩:=hi;rcases ag with⟨h,_,_⟩ | ⟨b,c,h,am,ad,an⟩
   ·cases h
   ·cases h;rw[ad]at ai;cases ai
  have key:∀ {s:Value} {bs:List Int},Gx 1 5 H0 H s bs.length (bys bs)->Gx 1 5 H0 H' s bs.length (bys bs):=λax=>by
   rcases ax with ag | ⟨b,c,rfl,am,ad,an⟩
   ·exact .inl ag
   ·exact .inr ⟨b,c,rfl,am,by rw[aj.keep b (al.lt ad) (av b _ ad)];exact ad,an⟩
  rcases Dj j ss.length with ab | ab | ab
  ·rw[LY ab]at aa;rw[LY (by omega)]at ac;exact key (ao j az w' aa ac)
  ·rw[LR (by omega)]at aa ac;rw[ab,BJ]at aa;rw[ab,ah,BJ]at ac;cases aa;cases ac;exact key ak
  ·have:=(Lk.1 aa).1;simp at this;omega
theorem Qdt {bv:Value}{b:List Int}(o:Int)(H:Qa)(aa:ZJ H bv b):Qe prog 13 [bv,.Z o] H λu H'=>u=.func (.func 23) #[] #[.P H.next,.P (H.next+1)]∧∃e1 e2,H'=(H.push (.cells [bv] e1 false)).push (.cells [.Z o] e2 false):=by
 refine Qqb λab=>?_;obtain⟨a,c,rfl,_⟩:=aa;simp only[Qhg,Qb,simprocAttr,Qom];exact .mk (by rw[Qd,Qd];omega) ⟨rfl,_,_,rfl⟩
def svP (L:Int->List Fm)(o:Int)(p:Pc):Sv:=⟨IntKind.i64.wrap (o+p.at_),p.bs,QDm (L p.op) p.op p.l p.bs p.is (IntKind.i64.wrap (o+p.at_)),p.is⟩
def swR (Hb:Qa)(cB lB:Nat)(eC:TypeId)(bl:Blk)(W:List Sv)(j:Nat)(H':Qa):Prop:=
 H'.get lB=some bl∧Hb.next<=H'.next∧(∀id,id<Hb.next->id≠cB->id≠lB->H'.get id=Hb.get id)∧∃v,H'.get cB=some (.cells [v] eC false)∧Qb7 Hb H' v (W.take j)∧∀id,inB v id->id<H'.next∧Hb.next<=id
def swO (cB lB:Nat)(eC:TypeId)(H:Qa)(id:Nat):Prop:=id=cB∨id=lB∨∃v,H.get cB=some (.cells [v] eC false)∧inB v id
theorem QIm {Hb:Qa}{cB lB:Nat}(ak:cB<Hb.next)(al:lB<Hb.next){eC:TypeId}{bl:Blk}{W:List Sv}{j:Nat}{H1 H2:Qa}(h:swR Hb cB lB eC bl W j H1)(ah:H1.Wf)(hx:Ext H1 H2):swR Hb cB lB eC bl W j H2∧∀id,swO cB lB eC H2 id->swO cB lB eC H1 id:=by
 obtain⟨ab,aj,ac,v,ad,ae,ag⟩:=h;have am:=hx.next;have aa:=hx.get cB (by omega);refine⟨⟨by rw[hx.get lB (by omega)];exact ab,by omega,λid a b c=>by rw[hx.get id (by omega)];exact ac id a b c,v,by rw[aa];exact ad,ae.go ah hx,λid hi=>?_⟩,λid hi=>?_⟩
 ·have:=ag id hi;exact⟨by omega,this.2⟩
 ·rcases hi with h | h | ⟨ai,h,hi⟩
  ·exact .inl h
  ·exact .inr (.inl h)
  ·exact .inr (.inr ⟨ai,by rw[<- aa];exact h,hi⟩)
theorem QB0 {Hb:Qa}{cB lB:Nat}(ah:cB<Hb.next)(ai:lB<Hb.next){eC:TypeId}{bl:Blk}{W:List Sv}{j:Nat}{H1:Qa}(h:swR Hb cB lB eC bl W j H1){id:Nat}(hi:swO cB lB eC H1 id):id<H1.next∧(id=cB∨id=lB∨Hb.next<=id):=by
 obtain⟨ac,ad,ae,v,aa,ag,ab⟩:=h;rcases hi with rfl | rfl | ⟨aj,h,hi⟩
 ·omega
 ·omega
 ·rw[aa]at h;cases h;have:=ab id hi;omega
theorem QnK (L:List Fm)(b:List Int):∀ (k a:Nat),a<=b.length->(XA L b k a).length<=b.length - a
 | 0,a,h=>L7 _
 | k+1,a,h=>by
  show(if a<b.length then _ else _:List Pc).length<=_;split
  ·rename_i aa;have ab:=@Qga L b a aa;have ac:=QnK L b k (a+(Y2 L b a).bs.length) ab.2;rw[Lo];omega
  ·exact L7 _
theorem Qws {H H':Qa}{v:Value}{bs:List Int}(h:ZJ H v bs)(ah:∀id,inS v id->H'.get id=H.get id):ZJ H' v bs:=by
 obtain⟨a,cap,rfl,ab,ac,a1,c1,e,ad⟩:=h;cases e;refine⟨_,_,rfl,ab,ac,_,_,rfl,λaa=>?_⟩;obtain⟨b,o,e,ro,cs,rfl,ag,ae⟩:=ad aa;exact⟨b,o,e,ro,cs,rfl,by rw[ah b ⟨_,_,_,rfl,rfl⟩];exact ag,ae⟩
theorem QsQ {H H':Qa}{v:Value}{l:List Ar}(h:QQ H v l)(ad:∀id,inS v id->H'.get id=H.get id):QQ H' v l:=by
 obtain⟨a,cap,rfl,ab⟩:=h;refine⟨_,_,rfl,λaa=>?_⟩;obtain⟨b,e,ro,rfl,ac⟩:=ab aa;exact⟨b,e,ro,rfl,by rw[ad b ⟨_,_,_,rfl,rfl⟩];exact ac⟩
theorem QuM (b:ByteArray):(Value.string b).cells.toList=[.string b]:=Nu rfl rfl
theorem QsR (b:ByteArray):(Value.string b).oneCell'=true:=Nu rfl rfl
theorem QoW {n k:Nat}{a:Option Addr}{m c:Nat}(h:∀id,inS (.slice a m c) id->id<n):Qj n (k+1) (.slice a m c)=true:=by
 cases a with
 | none=>rfl
 | some a=>
  show Nat.blt a.block n=true;simpa using h a.block ⟨a,m,c,rfl,rfl⟩
theorem QFS {n:Nat}{a b:Value}{op:Int}{is:Bool}(ac:Qj n 5 a=true)(ad:Qj n 5 b=true):Qj n 6 (.agg #[a,.Z op,b,.bool is])=true:=by
 show(#[a,.Z op,b,.bool is]:Array Value).all (Qj n 5)=true;have aa:Qj n 5 (.Z op)=true:=rfl;have ab:Qj n 5 (.bool is)=true:=rfl;simp[ac,ad,aa,ab]
theorem QjA {n:Nat}{b:Value}{op:Int}(ab:Qj n 5 b=true):Qj n 6 (.agg #[.Z op,b])=true:=by
 show(#[.Z op,b]:Array Value).all (Qj n 5)=true;have aa:Qj n 5 (.Z op)=true:=rfl;simp[ab,aa]
theorem QKF {size:Nat}{e:TypeId}{H0 H:Qa}{v:Value}{n:Nat}{cs:List Value}(h:Gx size e H0 H v n cs){id:Nat}(hi:inS v id):inB v id:=by
 obtain⟨a,m,c,rfl,rfl⟩:=hi;rcases h with⟨h,_⟩ | ⟨b,c',h,_⟩
 ·cases h
 ·cases h;exact⟨_,_,_,rfl⟩
theorem QqO (L:List Fm)(b:List Int):∀ (k a:Nat) (p:Pc),p∈XA L b k a->0<p.bs.length∧p.bs.length<=b.length∧p.l.length<=5∧(∀x∈p.l,I64 x.n)∧∀z∈p.bs,z∈b
 | 0,a,p,h=>by cases h
 | k+1,a,p,h=>by
  have h:p∈(if a<b.length then Y2 L b a::XA L b k (a+(Y2 L b a).bs.length) else[]):=h;split at h
  ·rename_i ab;rcases LK.1 h with rfl | h
   ·have ac:=@Qga L b a ab;refine⟨ac.1,by omega,?_⟩;unfold Y2;split
    ·rename_i ad;have ah:((b.drop a).take 15).length<=15:=by rw[Sb];omega
     obtain⟨ae,ag,_⟩:=Qwr (by omega) ad;exact⟨ag,ae.i,λz aa=>List.mem_of_mem_drop (List.mem_of_mem_take aa)⟩
    ·exact⟨L7 _,λx hx=>(by cases hx),λz aa=>List.mem_of_mem_drop (List.mem_of_mem_take aa)⟩
   ·exact QqO L b k _ p h
  ·cases h
section
variable {T:Qa->Prop} {L:List Fm} {lof:Int->List Fm} (hP:QrH T) (hT:∀H H',H.Wf->T H->Ext H H'->T H') (hO:∀op H,T H->Qe prog 36 [.Z op] H λu H'=>QaY H H' u (lof op)) (hR0:∀H,T H->Qe prog 48 [] H λu H'=>QaY H H' u L) (hty:QhN 64) (hsl:∀f∈L,f.shapes.length=f.slots.length)
include hP hT hO hR0 hty hsl
theorem QeU {bv:Value}{b:List Int}{o:Int}(H:Qa)(aX:T H)(ay:ZJ H bv b)(bL:b.length<=65536)(cb:∀z∈b,0<=z∧z<256)(bM:Qsk b.length o=0):
  Qe prog 6 [bv,.Z o] H λu H'=>∃v,u=.tuple #[v,.Z 0]∧Qb7 H H' v ((XA L b b.length 0).map (svP lof o))∧Ext H H':=by
 refine Qr0 λaq=>?_;have bJ:=ay;obtain⟨b3,b4,rfl,_⟩:=bJ;simp only[QiK,Qb,simprocAttr];refine(QkX _ b o H ay).thenW ?_;rintro _ H _ aq ⟨rfl,rfl⟩;rw[bM];simp only[Qfq,Qb,simprocAttr];generalize ao:H.push _=H1;obtain⟨eC,aS⟩:∃eC,H1.get H.next=some (.cells [.slice none 0 0] eC false):=⟨_,by rw[<- ao,Qc,Lc rfl]⟩;have bi:Ext H H1:=by rw[<- ao];exact(Ext.refl H).push _
 have bW:H1.Wf:=by rw[<- ao];exact aq.push _
 have ct:H1.next=H.next+1:=by rw[<- ao];rfl
 clear ao;refine(Qdt o H1 (ay.ext aq bi)).thenW ?_;rintro _ H2 cv aB ⟨rfl,e1,e2,ap⟩;have bj:Ext H1 H2:=by rw[ap];exact((Ext.refl H1).push _).push _
 have gB:H2.get H1.next=some (.cells [.slice b3 b.length b4] e1 false):=by rw[ap,Qc,Le (by rw[Qd];omega),Qc,Lc rfl]
 have aU:H2.get (H1.next+1)=some (.cells [.Z o] e2 false):=by rw[ap,Qc,Lc (by rw[Qd])]
 have cw:H2.next=H1.next+2:=by rw[ap,Qd,Qd]
 have aT:=(bj.get _ (bW.lt aS)).trans aS;clear ap;simp only[Qf,simprocAttr,Wu,simprocAttr,Ya];rw[QaB 23 [] [.P H1.next,.P (H1.next+1)]];intro Lm bI;refine⟨by kernel_rfl,?_⟩;obtain⟨Hb,ah⟩:∃h,h=H2.push (Lm none):=⟨_,rfl⟩;have aE:Ext H2 Hb:=by rw[ah];exact(Ext.refl H2).push _
 have cC:Hb.Wf:=by rw[ah];exact aB.push _
 have c5:Hb.next=H2.next+1:=by rw[ah];rfl
 have bD:Hb.get H2.next=some (Lm none):=by rw[ah,Qc,Lc rfl]
 have bA:=(aE.get _ (aB.lt gB)).trans gB;have bC:=(aE.get _ (aB.lt aU)).trans aU;have aL:=(aE.get _ (aB.lt aT)).trans aT;rw[<- ah];clear ah;have aN:H.next<Hb.next:=by omega
 have aP:H2.next<Hb.next:=by omega
 have aR:Ext H Hb:=(bi.trans bj).trans aE;obtain⟨W,ax⟩:∃W,W=XA L b b.length 0:=⟨_,rfl⟩;have bH:W.length<=65536:=by rw[ax];have:=QnK L b b.length 0 (L7 _);omega
 rw[<- ax];have bP:=Qap (fl:=true) (T:=T) (L:=L) hT hR0 hty hsl (l:=H2.next) (bB:=H1.next) (oB:=H1.next+1) (R:=swR Hb H.next H2.next eC (Lm none) (W.map (svP lof o))) (Own:=swO H.next H2.next eC) (o:=o) (W:=W) aq aX ay bL Hb aR bA bC ?_ ?_ ?_ (by omega) (by omega) (.all ax) ⟨?_,?_,?_⟩ ?_
 ·refine bP.thenW ?_;rintro u H3 cx c9 ⟨⟨aM,bE,au,v,an,av,aV⟩,cp⟩;refine⟨none,aM,?_⟩;have ab:∀id,id≠H2.next->(H3.kill H2.next).get id=H3.get id:=λid aa=>by rw[Q0,Le aa]
  have aA:(H3.kill H2.next).next=H3.next:=rfl;have k5:=(ab H.next (by omega)).trans an;rw[<- List.map_take,Nr]at av;have k6:Qb7 Hb (H3.kill H2.next) v (W.map (svP lof o)):=av.keep λid aa _=>ab id (by omega);have bn:Ext H (H3.kill H2.next):=⟨by rw[aA];omega,λid aa=>by rw[ab id (by omega),au id (by omega) (by omega) (by omega)];exact aR.get id aa⟩;generalize H3.kill H2.next=H4 at *;simp only[Qb,simprocAttr,V5,k5,Qqa];exact .mk bn.next ⟨v,rfl,k6.down (by omega),bn⟩
 ·rintro(h | h | ⟨v,h,hi⟩)
  ·omega
  ·omega
  ·rw[aL]at h;cases h;obtain⟨o',ci,c',e⟩:=hi;cases e
 ·rintro(h | h | ⟨v,h,hi⟩)
  ·omega
  ·omega
  ·rw[aL]at h;cases h;obtain⟨o',ci,c',e⟩:=hi;cases e
 ·intro j Ha id bG bF;have:=(QB0 aN aP bG bF).2;omega
 ·exact λj Ha Hc h aQ hx=>QIm aN aP h aQ hx
 ·exact λj Ha id h hi=>(QB0 aN aP h hi).1
 ·rintro j p Ha vs ba ⟨aM,bE,au,v,an,av,aV⟩ aQ ⟨b7,cn,rfl,bK,bV,aY,aZ⟩;intro bY;refine bI H2.next _ Ha _ aM rfl ?_ bY;have ab:∀id,id≠H2.next->(Ha.kill H2.next).get id=Ha.get id:=λid aa=>by rw[Q0,Le aa]
  have aA:(Ha.kill H2.next).next=Ha.next:=rfl;have aj:(Ha.kill H2.next).Wf:=aQ.kill _;have k5:=(ab H.next (by omega)).trans an;have ca:Ext H (Ha.kill H2.next):=⟨by rw[aA];omega,λid aa=>by rw[ab id (by omega),au id (by omega) (by omega) (by omega)];exact aR.get id aa⟩;have k6:Qb7 Hb (Ha.kill H2.next) v ((W.map (svP lof o)).take j):=av.keep λid aa _=>ab id (by omega);have bp:ZJ (Ha.kill H2.next) b7 p.bs:=Qws bK λid hi=>ab id (aY id hi).1;have br:QQ (Ha.kill H2.next) cn p.l:=QsQ bV λid hi=>ab id (aZ id hi).1;have k3:∀id,id<Hb.next->id≠H.next->id≠H2.next->(Ha.kill H2.next).get id=Hb.get id:=λid a b c=>(ab id c).trans (au id a b c);obtain⟨bu,cG,cH,cg,ch⟩:=QqO L b b.length 0 p (by rw[<- ax];exact Ln ba);generalize Ha.kill H2.next=Hk at *;obtain⟨aF,aG,rfl,cD,cE,_⟩:=id bp;obtain⟨aH,aI,rfl,_⟩:=id br;obtain⟨ak,am,rfl⟩:=k6.slc;have cj:¬H.next=Hk.next:=by omega
  simp only[K3,V6,Qb,simprocAttr,cj,LN,k5];obtain⟨H5,aw⟩:∃h,h=(Hk.push (.cells [.slice none 0 0,.Z 0,.slice none 0 0,.bool false] 44 false)).set Hk.next (.cells [.slice aF p.bs.length aG,.Z p.op,.slice aH p.l.length aI,.bool p.is] 44 false):=⟨_,rfl⟩;have ad:Ext Hk H5:=by rw[aw];exact((Ext.refl Hk).push _).set (Lb _) _
  have aC:H5.Wf:=by rw[aw];exact(aj.push _).set (by rw[Qc,Lc rfl]) _
  have ar:H5.get Hk.next=some (.cells [.slice aF p.bs.length aG,.Z p.op,.slice aH p.l.length aI,.bool p.is] 44 false):=by rw[aw,Qh,Lc rfl]
  have cd:=(ad.get _ (aj.lt k5)).trans k5;simp only[<- aw,Qfp,Qb,simprocAttr,cd,ar];have cq:(W.map (svP lof o)).length<=65536:=by rw[Nn];exact bH
  have bZ:Ext H H5:=ca.trans ad;have bq:=bp.ext aj ad;have ce:=br.ext aj ad;have cf:∀id,inS (.slice ak ((W.map (svP lof o)).take j).length am) id->id<Hk.next:=λid hi=>by obtain⟨ss,_,aO,_⟩:=k6.it;rw[aA];exact(aV id (QKF aO hi)).1
  have b5:Qj H5.next 6 (.slice ak ((W.map (svP lof o)).take j).length am)=true:=QoW λid hi=>by have:=cf id hi;have:=ad.next;omega
  have bc:Hk.next<H5.next:=aC.lt ar;refine⟨b5,⟨bc,bc⟩,?_⟩;refine(QE1 _ p.bs H5 bq bu (by omega)).thenW ?_;rintro _ H6 cy bg ⟨bQ,ae,al,rfl,co⟩;have aK:=(ae.get _ (aC.lt ar)).trans ar;have bx:∀n,Hk.next<=n->Qj n 5 (.slice aH p.l.length aI)=true:=λn bd=>QoW λid hi=>by have:=(aZ id hi).2;omega
  have b6:∀n,Hk.next<=n->Qj n 5 (.slice aF p.bs.length aG)=true:=λn bd=>QoW λid hi=>by have:=(aY id hi).2;omega
  have cJ:=ae.next;have cI:=ad.next;have b2:Qj H6.next 6 (.agg #[.slice aF p.bs.length aG,.Z p.op,.slice aH p.l.length aI,.bool p.is])=true:=QFS (b6 _ (by omega)) (bx _ (by omega));simp only[Qb,simprocAttr];refine⟨ae.eqB,?_⟩;simp only[Qb,simprocAttr,aK,b2];refine⟨by omega,?_⟩;refine(QnH hT hO hP p.is (IntKind.i64.wrap (o+p.at_)) H6 (hT _ _ aq aX (bZ.trans ae)) (ce.ext aC ae) (λn bd=>QjA (bx n (by omega))) (by omega) cg (bq.ext aC ae) bu (λz cc=>cb z (ch z cc))).thenW ?_;rintro _ H7 cz bh ⟨rfl,aD⟩;have b8:=(aD.get _ (bg.lt aK)).trans aK;have bR:=bQ.go bg aD;simp only[Qb,simprocAttr];refine⟨aD.eqB,?_⟩;simp only[Qb,simprocAttr,b8,QuM,QsR];refine⟨rfl,?_⟩;obtain⟨w,aJ⟩:∃w,w=svP lof o p:=⟨_,rfl⟩;have bN:(W.map (svP lof o))[j]? = some w:=by rw[LD,ba,aJ];rfl
  have bU:(W.map (svP lof o)).take (j+1)=(W.map (svP lof o)).take j++[w]:=by rw[Nv,bN];rfl
  obtain⟨H8,ag⟩:∃h,h=H7.push (.cells [.Z (IntKind.i64.wrap (o+p.at_)),.S al p.bs.length (UNK+1),.string (mkS (QDm (lof p.op) p.op p.l p.bs p.is (IntKind.i64.wrap (o+p.at_)))),.bool p.is] 29 false):=⟨_,rfl⟩;have bm:Ext H7 H8:=by rw[ag];exact(Ext.refl H7).push _
  have bX:H8.Wf:=by rw[ag];exact bh.push _
  have b9:H8.get H7.next=some (.cells [.Z w.at_,.S al w.bs.length (UNK+1),.string (mkS w.tx),.bool w.is] 29 false):=by rw[ag,Qc,Lc rfl,aJ];rfl
  have c4:H8.next=H7.next+1:=by rw[ag];rfl
  simp only[<- ag];clear ag;have ai:Ext Hk H8:=((ad.trans ae).trans aD).trans bm;have bS:YX 4 (.S H7.next 1 1) H8=some (1,[.Z w.at_,.S al w.bs.length (UNK+1),.string (mkS w.tx),.bool w.is]):=by
   rw[KM b9 (by decide) (by simp)];rfl
  have cr:((W.map (svP lof o)).take j).length<=65536:=by rw[Sb];omega
  obtain⟨Hz,bo,c8⟩:∃Hz:Qa,Ext Hz H8∧Hz.next=Hb.next:=⟨⟨Hb.next,H8.tr⟩,⟨by show Hb.next<=H8.next;have:=ai.next;omega,λid _=>rfl⟩,rfl⟩;have bO:Qb7 Hz H8 (.slice ak ((W.map (svP lof o)).take j).length am) ((W.map (svP lof o)).take j):=(k6.go aj ai).down (by omega);have bT:Gx 1 5 Hz H8 (.S al w.bs.length (UNK+1)) w.bs.length (bys w.bs):=by
   have h:Gx 1 5 H5 H8 (.S al p.bs.length (UNK+1)) p.bs.length (bys p.bs):=bR.go bh bm;rw[aJ];exact h.down (by omega)
  have k8:=(ai.get _ (aj.lt k5)).trans k5;refine QKE bO bo bX bT bS (by omega) (by omega) ?_;intro cK H9 az ac;obtain⟨bz,c',rfl⟩:=az.slc;rw[<- bU]at az ac ⊢;have aW:∀id,id<Hb.next->H9.get id=H8.get id:=λid aa=>(ac.x.get id (by omega)).trans (bo.get id (by omega)).symm;have k9:H9.get H.next=some (.cells [.slice ak ((W.map (svP lof o)).take j).length am] eC false):=by rw[aW _ (by omega)];exact k8
  have c6:=ac.next;have c7:=ai.next;simp only[Qb,simprocAttr,K2,k9,N1];refine⟨by omega,⟨by rw[Qh,Lc rfl],by rw[Qo,Qo];omega,λid p q r=>?_,.slice bz ((W.map (svP lof o)).take (j+1)).length c',?_,?_,λid hi=>?_⟩,⟨by rw[Qo,Qo];omega,?_,λid p q=>?_,λid hi=>?_⟩⟩
  ·rw[Qh,Le r,Qh,Le q,aW _ (by omega),ai.get _ (by omega)];exact k3 id p q r
  ·rw[Qh,Le (by omega),Qh,Lc rfl]
  ·refine Qb7.keep (H0:=Hb) (H:=H9) (az.down (by omega)) λid aa _=>?_;rw[Qh,Le (by omega),Qh,Le (by omega)]
  ·obtain⟨ss,_,aO,_⟩:=az.it;have:=aO.low ac.w hi;rw[Qo,Qo];exact⟨this.2,by omega⟩
  ·intro id aa;rw[Qo,Qo]at aa;rw[Qh,Le (by omega),Qh,Le (by omega)];exact ac.w id aa
  ·have cl:id≠H.next:=λh=>q (.inl h);have bw:id≠H2.next:=λh=>q (.inr (.inl h));have cm:¬inB (.slice ak ((W.map (svP lof o)).take j).length am) id:=λh=>q (.inr (.inr ⟨_,an,h⟩));rw[Qh,Le bw,Qh,Le cl,ac.keep id (by omega) cm,ai.get _ (by omega),ab id bw]
  ·rcases hi with h | h | ⟨cO,h,hi⟩
   ·exact .inl (.inl h)
   ·exact .inl (.inr (.inl h))
   ·rw[Qh,Le (by omega),Qh,Lc rfl]at h;cases h;rcases ac.new id hi with h | h
    ·exact .inl (.inr (.inr ⟨_,an,h⟩))
    ·exact .inr (by omega)
 ·exact⟨bD,Lb _,λ_ _ _ _=>rfl,_,aL,Qb7.nil _ _,λid ⟨o,n,c,h⟩=>by cases h⟩
end
def Qbf (lof:Int->List Fm)(o:Int)(W:List Pc):List UInt8:=W.flatMap λp=>(svP lof o p).tx++[10]
theorem QyO (lof:Int->List Fm)(o:Int){W:List Pc}{j:Nat}{p:Pc}(h:W[j]? = some p):Qbf lof o (W.take (j+1))=Qbf lof o (W.take j)++((svP lof o p).tx++[10]):=by
 unfold Qbf;rw[Nv,h,Bm];simp
theorem QsS (lof:Int->List Fm)(o:Int):∀ (W:List Pc),(∀p∈W,(svP lof o p).tx.length<=100000)->(Qbf lof o W).length<=W.length * 100001
 | [],_=>Lb _
 | p::W,h=>by
  have ab:=QsS lof o W (λq aa=>h q (NA _ aa));have ac:=h p (Ny ..);unfold Qbf at *;rw[Ba,Lh,Lh,Lo,Lo,L9];omega
def SB (H0 H:Qa)(D lB:Nat)(l:List UInt8)(p v:Value):Prop:=H.get D=some (.cells [p,v] 79 false)∧(p=.pointer none∨p=.P D)∧Gs 1 5 H0 H v l.length (u8v l)∧¬ZZ v D∧¬ZZ v lB∧Ext H0 H
def srR (H0:Qa)(D lB:Nat)(bl:Blk)(P:List UInt8)(lof:Int->List Fm)(o:Int)(W:List Pc)(j:Nat)(H:Qa):Prop:=H.get lB=some bl∧lB<H.next∧D<H.next∧∃p v,(∀id,ZZ v id->id<H.next)∧SB H0 H D lB (P++Qbf lof o (W.take j)) p v
def srO (D lB:Nat)(H:Qa)(id:Nat):Prop:=id=D∨id=lB∨∃p v,H.get D=some (.cells [p,v] 79 false)∧ZZ v id
section
variable {H0:Qa} {D lB:Nat} {bl:Blk} {P:List UInt8} {lof:Int->List Fm} {o:Int} {W:List Pc} {j:Nat}
theorem QIn {H1 H2:Qa}(h:srR H0 D lB bl P lof o W j H1)(ad:H1.Wf)(hx:Ext H1 H2):srR H0 D lB bl P lof o W j H2∧∀id,srO D lB H2 id->srO D lB H1 id:=by
 obtain⟨ae,aa,ak,p,v,al,ab,ag,ac,ah,ai,aj⟩:=h;have e3:=hx.get D (ad.lt ab);refine⟨⟨(hx.get lB aa).trans ae,N5 aa hx.next,N5 ak hx.next,p,v,λid hi=>N5 (al id hi) hx.next,e3.trans ab,ag,ac.ext λid am=>hx.get id (ac.low ad am).2,ah,ai,aj.trans hx⟩,λid hi=>?_⟩;rcases hi with h | h | ⟨an,ao,h,hi⟩
 ·exact .inl h
 ·exact .inr (.inl h)
 ·exact .inr (.inr ⟨an,ao,e3▸h,hi⟩)
theorem QMK {H0 H:Qa}{v:Value}{n:Nat}{cs:List Value}(h:Gs 1 5 H0 H v n cs){id:Nat}(hi:ZZ v id):H0.next<=id∧∃b,H.get id=some b:=by
 rcases h with⟨rfl,_⟩ | ⟨b,rfl,aa,ab,_⟩
 ·obtain⟨_,_,_,e⟩:=hi;cases e
 ·obtain⟨_,_,_,e⟩:=hi;cases e;exact⟨aa,_,ab⟩
theorem QIo {H1:Qa}(ad:H0.next<=D)(ae:H0.next<=lB)(h:srR H0 D lB bl P lof o W j H1){id:Nat}(hi:srO D lB H1 id):H0.next<=id∧∃b,H1.get id=some b:=by
 obtain⟨ab,ag,al,p,v,am,aa,ah,ac,ai,aj,ak⟩:=h;rcases hi with rfl | rfl | ⟨an,ao,h,hi⟩
 ·exact⟨ad,_,aa⟩
 ·exact⟨ae,_,ab⟩
 ·rw[aa]at h;cases h;exact QMK ac hi
end
def QIp (L:List Fm)(lof:Int->List Fm)(b:List Int)(o:Int):List UInt8:=[111,114,103,32]++QeC o++[10]++Qbf lof o (XA L b b.length 0)
theorem QDx (H:Qa)(aa:H.Wf):Qmt 79 H (H.push (.cells [.pointer none,.slice none 0 0] 79 false)) H.next [] (.pointer none) (.slice none 0 0):=
 ⟨by rw[Qc,Lc rfl],.inl rfl,.inl ⟨rfl,rfl,rfl⟩,Lb _,fun⟨_,_,_,e⟩=>(by cases e),aa.push _,(Ext.refl H).push _⟩
section
variable {T:Qa->Prop} {L:List Fm} {lof:Int->List Fm} (hP:QrH T) (hT:∀H H',H.Wf->T H->Ext H H'->T H') (hO:∀op H,T H->Qe prog 36 [.Z op] H λu H'=>QaY H H' u (lof op)) (hR0:∀H,T H->Qe prog 48 [] H λu H'=>QaY H H' u L) (hty:QhN 64) (hsl:∀f∈L,f.shapes.length=f.slots.length)
include hP hT hO hR0 hty hsl
theorem QsT {bv:Value}{b:List Int}{o:Int}(H:Qa)(aG:T H)(aA:ZJ H bv b)(bA:b.length<=65536)(bR:∀z∈b,0<=z∧z<256)(bC:Qsk b.length o=0)(aR:I64 o)(aI:∀p∈XA L b b.length 0,(svP lof o p).tx.length<=100000):
  Qe prog 18 [bv,.Z o] H λu H'=>u=.tuple #[.string (mkS (QIp L lof b o)),.Z 0]∧Ext H H':=by
 refine Qqc λaj=>?_;have b8:=aA;obtain⟨bj,bm,rfl,_⟩:=b8;simp only[Qhh,Qb,simprocAttr];refine(QkX _ b o H aA).thenW ?_;rintro _ H _ aj ⟨rfl,rfl⟩;rw[bC];have cg:((0:Int)==0)=true:=rfl;simp only[QdS,Qb,simprocAttr,cg,L8];have aF:=QDx H aj;generalize H.push (.cells [.pointer none,.slice none 0 0] 79 false)=H1 at *;have aU:=aF.ext;have c5:=aF.wf;have cl:=Z9 o aR;refine(Kh hP.q o aR H1 (hT _ _ aj aG aU)).thenW ?_;rintro _ H2 cm bL ⟨rfl,bP⟩;have bx:=aF.go bP bL;simp only[Qb,simprocAttr,Xh];refine⟨by omega,by omega,?_⟩;obtain⟨P,az⟩:∃P,P=[111,114,103,32]++QeC o++[10]:=⟨_,rfl⟩;have ch:P.length<=100:=by rw[az];simp;omega
 rw[show(111::114::103::32::(QeC o++[10]))=P from by rw[az];simp];refine(Qcp (.inr rfl) bx (m:=P) (by simp;omega)).thenW ?_;rintro _ H3 cn aS ⟨⟨cJ,cK,rfl⟩,bZ,bd,ah,cz⟩;rw[LH]at ah;simp only[Qb,simprocAttr];refine(Qdt o H3 (aA.ext aj ah.ext)).thenW ?_;rintro _ H4 co aC ⟨rfl,e1,e2,am⟩;have bQ:Ext H3 H4:=by rw[am];exact((Ext.refl H3).push _).push _
 have gB:H4.get H3.next=some (.cells [.slice bj b.length bm] e1 false):=by rw[am,Qc,Le (by rw[Qd];omega),Qc,Lc rfl]
 have aO:H4.get (H3.next+1)=some (.cells [.Z o] e2 false):=by rw[am,Qc,Lc (by rw[Qd])]
 have cp:H4.next=H3.next+2:=by rw[am,Qd,Qd]
 have bz:=ah.go bQ aC;have aE:∀id,ZZ bd id->id<H3.next:=λid hi=>(ah.gs.low aS hi).2;have c8:=aS.lt ah.get;clear am;simp only[Qf,simprocAttr,Wu,simprocAttr,Ya];rw[QaB 23 [] [.P H3.next,.P (H3.next+1)]];intro Lm b6;refine⟨by kernel_rfl,?_⟩;obtain⟨Hb,ai⟩:∃h,h=H4.push (Lm none):=⟨_,rfl⟩;have aK:Ext H4 Hb:=by rw[ai];exact(Ext.refl H4).push _
 have bO:Hb.Wf:=by rw[ai];exact aC.push _
 have cv:Hb.next=H4.next+1:=by rw[ai];rfl
 have bu:Hb.get H4.next=some (Lm none):=by rw[ai,Qc,Lc rfl]
 have bq:=(aK.get _ (aC.lt gB)).trans gB;have br:=(aK.get _ (aC.lt aO)).trans aO;have ae:=bz.go aK bO;rw[<- ai];clear ai;have aX:=ae.ext;obtain⟨W,an⟩:∃W,W=XA L b b.length 0:=⟨_,rfl⟩;have ci:W.length<=65536:=by rw[an];have:=QnK L b b.length 0 (L7 _);omega
 rw[<- an]at aI;have bJ:QIp L lof b o=P++Qbf lof o W:=by rw[an,az];rfl
 rw[bJ];have aQ:∀j,(P++Qbf lof o (W.take j)).length<=100+65536 * 100001:=λj=>by
  have ak:=QsS lof o (W.take j) (λp bH=>aI p (List.mem_of_mem_take bH));have ar:(W.take j).length<=65536:=by rw[Sb];omega
  rw[Lh];omega
 have cC:=aU.next;have cD:=ah.ext.next;have R0:srR H H.next H4.next (Lm none) P lof o W 0 Hb:=⟨bu,by omega,by omega,bZ,bd,λid hi=>by have:=aE id hi;omega,ae.get,ae.ptr,by rw[Rb];simpa[Qbf] using ae.gs,ae.apart,λhi=>by have:=aE _ hi;omega,aX⟩;have bI:=Qap (fl:=true) (T:=T) (L:=L) hT hR0 hty hsl (l:=H4.next) (bB:=H3.next) (oB:=H3.next+1) (R:=srR H H.next H4.next (Lm none) P lof o W) (Own:=srO H.next H4.next) (o:=o) (W:=W) aj aG aA bA Hb aX bq br ?_ ?_ ?_ (by omega) (by omega) (.all an) ⟨?_,?_,?_⟩ R0
 ·refine bI.thenW ?_;rintro u H5 cq aJ ⟨⟨ak,ar,_,aL,aq,_,ab,au,ag,av,al,aw⟩,cj⟩;rw[Nr]at ag;refine⟨none,ak,?_⟩;have ad:∀id,id≠H4.next->(H5.kill H4.next).get id=H5.get id:=λid aa=>by rw[Q0,Le aa]
  have ax:Qmt 79 H (H5.kill H4.next) H.next (P++Qbf lof o W) aL aq:=⟨(ad _ (by omega)).trans ab,au,ag.ext λid aa=>ad id λe=>al (e▸aa),Lb _,av,aJ.kill _,aw.kill (by omega)⟩;generalize H5.kill H4.next=H6 at *;have bF:=aQ W.length;rw[Nr]at bF;simp only[Qb,simprocAttr,V5];refine(Qut ax (by rw[az];simp) (by omega)).thenW ?_;rintro _ H7 _ _ ⟨rfl,aW⟩;simp only[Qb,simprocAttr,Qon];exact .mk aW.next ⟨rfl,aW⟩
 ·rintro(h | h | ⟨p,v,h,hi⟩)
  ·omega
  ·omega
  ·rw[ae.get]at h;cases h;have:=aE _ hi;omega
 ·rintro(h | h | ⟨p,v,h,hi⟩)
  ·omega
  ·omega
  ·rw[ae.get]at h;cases h;have:=aE _ hi;omega
 ·exact λj Ha id b5 b4=>(QIo (Lb _) (by omega) b5 b4).1
 ·exact λj Ha Hc h ao hx=>QIn h ao hx
 ·intro j Ha id h hi;obtain⟨ak,ar,bw,p,v,b7,ab,au,ag,av,al,aw⟩:=h;rcases hi with rfl | rfl | ⟨bY,cd,h,hi⟩
  ·exact bw
  ·exact ar
  ·rw[ab]at h;cases h;exact b7 id hi
 ·rintro j p Ha vs aH ⟨ak,ar,_,aL,aq,_,ab,au,ag,av,al,aw⟩ ao ⟨bn,ce,rfl,b9,bK,bD,aP⟩;intro bN;refine b6 H4.next _ Ha _ ak rfl ?_ bN;have ad:∀id,id≠H4.next->(Ha.kill H4.next).get id=Ha.get id:=λid aa=>by rw[Q0,Le aa]
  have cw:(Ha.kill H4.next).next=Ha.next:=rfl;have aD:(Ha.kill H4.next).Wf:=ao.kill _;have b3:Qmt 79 H (Ha.kill H4.next) H.next (P++Qbf lof o (W.take j)) aL aq:=⟨(ad _ (by omega)).trans ab,au,ag.ext λid aa=>ad id λe=>al (e▸aa),Lb _,av,aD,aw.kill (by omega)⟩;have aZ:ZJ (Ha.kill H4.next) bn p.bs:=Qws b9 λid hi=>ad id (bD id hi).1;have ba:QQ (Ha.kill H4.next) ce p.l:=QsQ bK λid hi=>ad id (aP id hi).1;obtain⟨bV,cG,cH,bW,bX⟩:=QqO L b b.length 0 p (by rw[<- an];exact Ln aH);have cQ:∀id,ZZ aq id->id<Ha.next:=λid hi=>(ag.low ao hi).2;have c9:=ao.lt ab;have cE:(Ha.kill H4.next).get H4.next=none:=by rw[Q0,Lc rfl]
  generalize Ha.kill H4.next=Hk at *;obtain⟨bh,bi,rfl,c6,c7,_⟩:=id aZ;obtain⟨aM,aN,rfl,_⟩:=id ba;simp only[K3,V6,Qb,simprocAttr];obtain⟨H5,ay⟩:∃h,h=(Hk.push (.cells [.slice none 0 0,.Z 0,.slice none 0 0,.bool false] 44 false)).set Hk.next (.cells [.slice bh p.bs.length bi,.Z p.op,.slice aM p.l.length aN,.bool p.is] 44 false):=⟨_,rfl⟩;have ap:Ext Hk H5:=by rw[ay];exact((Ext.refl Hk).push _).set (Lb _) _
  have aJ:H5.Wf:=by rw[ay];exact(aD.push _).set (by rw[Qc,Lc rfl]) _
  have bp:H5.get Hk.next=some (.cells [.slice bh p.bs.length bi,.Z p.op,.slice aM p.l.length aN,.bool p.is] 44 false):=by rw[ay,Qh,Lc rfl]
  have ax:=b3.go ap aJ;have bT:=aZ.ext aD ap;have bU:=ba.ext aD ap;have cf:∀n,Hk.next<=n->Qj n 5 (.slice aM p.l.length aN)=true:=λn bG=>QoW λid hi=>by have:=(aP id hi).2;omega
  have cI:=ap.next;simp only[<- ay,QdR,Qb,simprocAttr,bp];refine(QnH hT hO hP p.is (IntKind.i64.wrap (o+p.at_)) H5 (hT _ _ aj aG ax.ext) bU (λn bG=>QjA (cf n (by omega))) (by omega) bW bT bV (λz bS=>bR z (bX z bS))).thenW ?_;rintro _ H6 cr bM ⟨rfl,aV⟩;have b2:=ax.go aV bM;have aY:=ap.trans aV;have bo:QDm (lof p.op) p.op p.l p.bs p.is (IntKind.i64.wrap (o+p.at_))=(svP lof o p).tx:=rfl;have cy:=aI p (Ln aH);have bE:=aQ j;rw[bo];simp only[Qb,simprocAttr,Xh];refine⟨by omega,?_⟩;refine(Qcp (.inr rfl) b2 (m:=(svP lof o p).tx++[10]) (by simp only[Lh,Lo,L9]at bE ⊢;omega)).thenW ?_;rintro _ H7 ct aT ⟨⟨cO,cP,rfl⟩,ca,bg,ac,aB⟩;rw[LQ,<- QyO lof o aH]at ac;have cx:=aY.next;have nv:¬ZZ bg H4.next:=λhi=>by
   rcases aB.new _ hi with h | h
   ·exact al h
   ·omega
  have c4:=aB.next;simp only[Qb,simprocAttr,K2];have ss:∀id,id≠H4.next->(H7.set H4.next (Lm none)).get id=H7.get id:=λid aa=>by rw[Qh,Le aa]
  refine⟨by omega,by simp,⟨by rw[Qh,Lc rfl],by rw[Qo];omega,by rw[Qo];omega,ca,bg,λid hi=>by rw[Qo];exact(ac.gs.low aT hi).2,(ss _ (by omega)).trans ac.get,ac.ptr,ac.gs.ext λid aa=>ss id λe=>nv (e▸aa),ac.apart,nv,ac.ext.set (by omega) _⟩,⟨by rw[Qo];omega,?_,λid p q=>?_,λid hi=>?_⟩⟩
  ·intro id aa;rw[Qo]at aa;rw[ss id (by omega)];exact aT id aa
  ·have cb:id≠H.next:=λh=>q (.inl h);have bc:id≠H4.next:=λh=>q (.inr (.inl h));have cc:¬ZZ aq id:=λh=>q (.inr (.inr ⟨_,_,ab,h⟩));rw[ss id bc,aB.keep id (by omega) cb cc,aY.get id (by omega),ad id bc]
  ·rcases hi with h | h | ⟨bY,cd,h,hi⟩
   ·exact .inl (.inl h)
   ·exact .inl (.inr (.inl h))
   ·rw[ss _ (by omega),ac.get]at h;cases h;rcases aB.new id hi with h | h
    ·exact .inl (.inr (.inr ⟨_,_,ab,h⟩))
    ·exact .inr (by omega)
end
def QnL (ok:Pc->Bool):List Pc->List Pc
 | []=>[]
 | q::Q=>if ok q=true then q::QnL ok Q else[q]
theorem QyP (ok:Pc->Bool):∀Q:List Pc,PW (Q.all ok) (QnL ok Q) Q
 | []=>.all rfl
 | q::Q=>by
  obtain⟨m,ab,ac,ad⟩:=QyP ok Q;unfold QnL;rw[Bv]
  by_cases h:ok q=true
  ·rw[Lc h,h,LJ];exact⟨m+1,by rw[ab,List.take_succ_cons],λaa=>by have:=ac aa;rw[Lo];omega,λaa=>by have:=ad aa;rw[Lo];omega⟩
  ·rw[Le h,(by simpa using h:ok q=false),NG];exact⟨1,rfl,λaa=>(by cases aa),λ_=>by rw[Lo];omega⟩
theorem QyQ (ok:Pc->Bool):∀ (Q:List Pc) (j:Nat) (p:Pc),(QnL ok Q)[j]? = some p->ok p=(Q.all ok||decide (j+1<(QnL ok Q).length))
 | [],j,p,h=>by simp[QnL]at h
 | q::Q,j,p,h=>by
  unfold QnL at h ⊢;rw[Bv]
  by_cases aa:ok q=true
  ·rw[Lc aa]at h ⊢;rw[aa,LJ];cases j with
   | zero=>
    have e:q=p:=by simpa using h
    subst e;rw[aa];cases Q with
    | nil=>rfl
    | cons r Q=>unfold QnL;split<;>simp
   | succ j=>
    rw[QyQ ok Q j p (by simpa using h)];simp
  ·rw[Le aa]at h ⊢;cases j with
   | zero=>
    have e:q=p:=by simpa using h
    subst e;simp[aa]
   | succ j=>simp at h
def okP (lof:Int->List Fm)(p:Pc):Bool:=!p.is||((QtR (lof p.op) p.op p.l (Qk8 (lof p.op) p.op p.l p.bs)).2==0&&QeQ (QtR (lof p.op) p.op p.l (Qk8 (lof p.op) p.op p.l p.bs)).1 p.bs)
def plR (H0:Qa)(aa lB:Nat)(Lm:Option Code->Blk)(fl:Bool)(n j:Nat)(H:Qa):Prop:=H.get lB=some (if fl=false∧j=n then Lm (some .ret) else Lm none)∧H.get aa=some (.cells [.bool false] 4 false)∧lB<H.next∧aa<H.next∧Ext H0 H
theorem QIq {H0 H1 H2:Qa}{aa lB:Nat}{Lm:Option Code->Blk}{fl:Bool}{n j:Nat}(h:plR H0 aa lB Lm fl n j H1)(hx:Ext H1 H2):plR H0 aa lB Lm fl n j H2:=by
 obtain⟨ab,ac,ad,ae,ag⟩:=h;have:=hx.next;exact⟨(hx.get _ ad).trans ab,(hx.get _ ae).trans ac,by omega,by omega,ag.trans hx⟩
section
variable {T:Qa->Prop} {L:List Fm} {lof:Int->List Fm} (hT:∀H H',H.Wf->T H->Ext H H'->T H') (hO:∀op H,T H->Qe prog 36 [.Z op] H λu H'=>QaY H H' u (lof op)) (hR0:∀H,T H->Qe prog 48 [] H λu H'=>QaY H H' u L) (hty:QhN 64) (hsl:∀f∈L,f.shapes.length=f.slots.length)
include hT hO hR0 hty hsl
theorem QtX {bv:Value}{b:List Int}(H:Qa)(aE:T H)(aF:ZJ H bv b)(bC:b.length<=65536):
  Qe prog 11 [bv] H λu H'=>u=.bool ((XA L b b.length 0).all (okP lof))∧Ext H H':=by
 refine Qr1 λap=>?_;have b9:=aF;obtain⟨bu,bw,rfl,_⟩:=b9;obtain⟨fl,aV⟩:∃fl,fl=(XA L b b.length 0).all (okP lof):=⟨_,rfl⟩;obtain⟨W,b7⟩:∃W,W=QnL (okP lof) (XA L b b.length 0):=⟨_,rfl⟩;have av:=QyP (okP lof) (XA L b b.length 0);have aZ:=QyQ (okP lof) (XA L b b.length 0);rw[<- aV,<- b7]at av aZ;rw[<- aV];have bD:∀ (j:Nat) (p:Pc),W[j]? = some p->p∈XA L b b.length 0:=λj p h=>by
  obtain⟨m,ab,_⟩:=av;rw[ab]at h;exact List.mem_of_mem_take (Ln h)
 have b6:decide ((b.length:Int)>65536)=false:=Lj (by omega);simp only[QiL,Qb,simprocAttr,Qr,b6];generalize an:H.push _=H1;have aP:H1.get H.next=some (.cells [.bool false] 4 false):=by rw[<- an,Qc,Lc rfl]
 have bg:Ext H H1:=by rw[<- an];exact(Ext.refl H).push _
 have bG:H1.Wf:=by rw[<- an];exact ap.push _
 have bS:H1.next=H.next+1:=by rw[<- an];rfl
 clear an;simp only[Qfu,Qb,simprocAttr];refine(Qdt 0 H1 (aF.ext ap bg)).thenW ?_;rintro _ H2 bT aw ⟨rfl,e1,e2,ao⟩;have bh:Ext H1 H2:=by rw[ao];exact((Ext.refl H1).push _).push _
 have gB:H2.get H1.next=some (.cells [.slice bu b.length bw] e1 false):=by rw[ao,Qc,Le (by rw[Qd];omega),Qc,Lc rfl]
 have aR:H2.get (H1.next+1)=some (.cells [.Z 0] e2 false):=by rw[ao,Qc,Lc (by rw[Qd])]
 have bU:H2.next=H1.next+2:=by rw[ao,Qd,Qd]
 have aQ:=(bh.get _ (bG.lt aP)).trans aP;clear ao;simp only[Qf,simprocAttr,Wu,simprocAttr,Ya];rw[QaB 23 [] [.P H1.next,.P (H1.next+1)]];intro Lm b8;refine⟨by kernel_rfl,?_⟩;obtain⟨Hb,al⟩:∃h,h=H2.push (Lm none):=⟨_,rfl⟩;have aB:Ext H2 Hb:=by rw[al];exact(Ext.refl H2).push _
 have ca:Hb.Wf:=by rw[al];exact aw.push _
 have bY:Hb.next=H2.next+1:=by rw[al];rfl
 have b5:Hb.get H2.next=some (Lm none):=by rw[al,Qc,Lc rfl]
 have b2:=(aB.get _ (aw.lt gB)).trans gB;have b3:=(aB.get _ (aw.lt aR)).trans aR;have b4:=(aB.get _ (aw.lt aQ)).trans aQ;rw[<- al];clear al;have bi:Ext H Hb:=(bg.trans bh).trans aB;have R0:plR H H.next H2.next Lm fl W.length 0 Hb:=by
  refine⟨?_,b4,by omega,by omega,bi⟩;rw[b5];split
  ·rename_i h;obtain⟨m,ab,_,ak⟩:=av;have:=ak h.1;rw[ab,Sb]at h;omega
  ·rfl
 have bE:=Qap (fl:=fl) (T:=T) (L:=L) hT hR0 hty hsl (l:=H2.next) (bB:=H1.next) (oB:=H1.next+1) (R:=plR H H.next H2.next Lm fl W.length) (Own:=λ_ id=>id=H.next∨id=H2.next) (o:=0) (W:=W) ap aE aF bC Hb bi b2 b3 (by omega) (by omega) ?_ (by omega) (by omega) av ⟨?_,?_,?_⟩ R0
 ·refine bE.thenW ?_;rintro u H3 bV bH ⟨⟨ab,ak,aC,aD,ar⟩,bQ⟩;have aj:∀id,id≠H2.next->(H3.kill H2.next).get id=H3.get id:=λid aa=>by rw[Q0,Le aa]
  have k2:=(aj H.next (by omega)).trans ak;have ag:Ext H (H3.kill H2.next):=ar.kill (by omega);have ah:(H3.kill H2.next).Wf:=bH.kill _;generalize H3.kill H2.next=H4 at *;cases fl with
  | true=>
   rw[Le (by simp)]at ab;refine⟨none,ab,?_⟩;simp only[Qb,simprocAttr,V5,k2,Qhf];exact .mk (ag.set (Lb _) _).next ⟨rfl,ag.set (Lb _) _⟩
  | false=>
   rw[Lc ⟨rfl,rfl⟩]at ab;refine⟨some .ret,ab,?_⟩;simp only[Qb,simprocAttr,Qw5,k2,Qhf];exact .mk ag.next ⟨rfl,ag⟩
 ·rintro j Ha id h (rfl | rfl)
  ·omega
  ·omega
 ·exact λj Ha Hc h bc hx=>⟨QIq h hx,λid hi=>hi⟩
 ·rintro j Ha id ⟨ab,ak,aC,aD,ar⟩ (rfl | rfl)
  ·exact aD
  ·exact aC
 ·rintro j p Ha vs aH ⟨ab,ak,aC,aD,ar⟩ bc ⟨bx,bN,rfl,bA,bF,aW,aX⟩;intro bJ;have bR:=(Lk.1 aH).1;rw[Le (by omega)]at ab;refine b8 H2.next _ Ha _ ab rfl ?_ bJ;have aj:∀id,id≠H2.next->(Ha.kill H2.next).get id=Ha.get id:=λid aa=>by rw[Q0,Le aa]
  have bZ:(Ha.kill H2.next).next=Ha.next:=rfl;have ah:(Ha.kill H2.next).Wf:=bc.kill _;have k2:=(aj H.next (by omega)).trans ak;have ag:Ext H (Ha.kill H2.next):=ar.kill (by omega);have bj:ZJ (Ha.kill H2.next) bx p.bs:=Qws bA λid hi=>aj id (aW id hi).1;have bn:QQ (Ha.kill H2.next) bN p.l:=QsQ bF λid hi=>aj id (aX id hi).1;obtain⟨cd,ce,cf,bp,cg⟩:=QqO L b b.length 0 p (bD j p aH);have aT:=aZ j p aH;generalize Ha.kill H2.next=Hk at *;obtain⟨aL,aM,rfl,cb,cc,_⟩:=id bj;obtain⟨aN,aO,rfl,_⟩:=id bn;simp only[K3,V6,Qb,simprocAttr];obtain⟨H5,au⟩:∃h,h=(Hk.push (.cells [.slice none 0 0,.Z 0,.slice none 0 0,.bool false] 44 false)).set Hk.next (.cells [.slice aL p.bs.length aM,.Z p.op,.slice aN p.l.length aO,.bool p.is] 44 false):=⟨_,rfl⟩;have ai:Ext Hk H5:=by rw[au];exact((Ext.refl Hk).push _).set (Lb _) _
  have ax:H5.Wf:=by rw[au];exact(ah.push _).set (by rw[Qc,Lc rfl]) _
  have am:H5.get Hk.next=some (.cells [.slice aL p.bs.length aM,.Z p.op,.slice aN p.l.length aO,.bool p.is] 44 false):=by rw[au,Qh,Lc rfl]
  have bm:=bj.ext ah ai;have bo:=bn.ext ah ai;have k5:=(ai.get _ (ah.lt k2)).trans k2;have bd:=ag.trans ai;have aK:∀n,Hk.next<=n->Qj n 5 (.slice aN p.l.length aO)=true:=λn aI=>QoW λid hi=>by have:=(aX id hi).2;omega
  have bO:∀n,Hk.next<=n->Qj n 5 (.slice aL p.bs.length aM)=true:=λn aI=>QoW λid hi=>by have:=(aW id hi).2;omega
  have bM:=ai.next;have bL:=ax.lt am
  -- the ends of a round
  have go:∀ (H6:Qa),H6.Wf->Ext Hk H6->okP lof p=true->∀A6,QGf Lm H2.next Ha.next (λu H'=>u=.bool (fl||decide (j+1<W.length))∧plR H H.next H2.next Lm fl W.length (j+1) H'∧CK (λ_ id=>id=H.next∨id=H2.next) Ha H') A6 H6:=by
   intro H6 ay ac ae A6;rw[aT]at ae;have aY:=ac.next;rw[K2];have ss:∀id,id≠H2.next->(H6.set H2.next (Lm none)).get id=H6.get id:=λid aa=>by rw[Qh,Le aa]
   refine⟨by omega,by rw[ae],⟨?_,?_,by rw[Qo];omega,by rw[Qo];omega,?_⟩,⟨by rw[Qo];omega,?_,λid a q=>?_,λid hi=>.inl hi⟩⟩
   ·rw[Qh,Lc rfl,Le];rintro⟨rfl,e⟩;simp at ae;omega
   ·rw[ss _ (by omega),ac.get _ (by omega)];exact k2
   ·exact(ag.trans ac).set (by omega) _
   ·intro id aa;rw[Qo]at aa;rw[ss id (by omega)];exact ay id aa
   ·have aq:id≠H2.next:=λh=>q (.inr h);rw[ss id aq,ac.get id (by omega),aj id aq]
  have bq:∀ (H6:Qa),H6.Wf->Ext Hk H6->okP lof p=false->∀A6,(QDV Lm H2.next Ha.next (λu H'=>u=.bool (fl||decide (j+1<W.length))∧plR H H.next H2.next Lm fl W.length (j+1) H'∧CK (λ_ id=>id=H.next∨id=H2.next) Ha H')).ret A6 (H6.set H.next (.cells [.bool false] 4 false)):=by
   intro H6 ay ac ae A6;rw[aT]at ae;have aY:=ac.next;rw[Qw6];have k6:=(ac.get _ (ah.lt k2)).trans k2;have ss:∀id,id≠H2.next->((H6.set H.next (.cells [.bool false] 4 false)).set H2.next (Lm (some .ret))).get id=H6.get id:=λid aa=>by
    rw[Qh,Le aa,Qh];split
    ·rename_i e;rw[e];exact k6.symm
    ·rfl
   refine⟨by rw[Qo];omega,by rw[ae],⟨?_,?_,by rw[Qo,Qo];omega,by rw[Qo,Qo];omega,?_⟩,⟨by rw[Qo,Qo];omega,?_,λid a q=>?_,λid hi=>.inl hi⟩⟩
   ·rw[Qh,Lc rfl,Lc];simp at ae;exact⟨ae.1,by omega⟩
   ·rw[ss _ (by omega)];exact k6
   ·exact((ag.trans ac).set (Lb _) _).set (by omega) _
   ·intro id aa;rw[Qo,Qo]at aa;rw[ss id (by omega)];exact ay id aa
   ·have aq:id≠H2.next:=λh=>q (.inr h);rw[ss id aq,ac.get id (by omega),aj id aq]
  simp only[<- au,Qft,Qb,simprocAttr,am];cases aG:p.is with
  | false=>
   simp only[Qb,simprocAttr,LM];exact go H5 ax ai (by unfold okP;rw[aG];rfl) _
  | true=>
   rw[aG]at am;simp only[Qb,simprocAttr,L8,Qfs,am];refine⟨QjA (aK _ bM),?_⟩;refine(QnG hT hO true H5 (hT _ _ ap aE bd) bo (λn aI=>QjA (aK n (by omega))) (by omega) bp bm).thenW ?_;rintro _ H6 aY ay ⟨rfl,az⟩;refine⟨az.eqB,?_⟩;simp only[Qb,simprocAttr];refine(Qqv hT hO (Qk8 (lof p.op) p.op p.l p.bs) H6 (hT _ _ ap aE (bd.trans az)) (bo.ext ax az) (λn aI=>QjA (aK n (by omega))) (by omega) bp).thenW ?_;rintro _ H7 bW bI ⟨ch,rfl,aS,bK⟩;have aJ:=az.trans bK;have aA:=ai.trans aJ;have bz:=(aJ.get _ bL).trans am;have k7:=(aA.get _ (ah.lt k2)).trans k2;obtain⟨a8,bP,rfl⟩:=aS.slc;have aU:=aS.cellsB;have ad:okP lof p=((QtR (lof p.op) p.op p.l (Qk8 (lof p.op) p.op p.l p.bs)).2==0&&QeQ (QtR (lof p.op) p.op p.l (Qk8 (lof p.op) p.op p.l p.bs)).1 p.bs):=by unfold okP;rw[aG];rfl
   generalize QtR (lof p.op) p.op p.l (Qk8 (lof p.op) p.op p.l p.bs)=E at *;obtain⟨E1,E2⟩:=E;simp only at ad aU;simp only[Qb,simprocAttr];cases z:E2==0 with
   | false=>
    rw[z,NG]at ad;simp only[Qb,simprocAttr,LM,L8,k7];exact bq H7 bI aA ad _
   | true=>
    rw[z,LJ]at ad;simp only[Qb,simprocAttr,L8,LM,bz];refine(QkW _ _ E1 p.bs H7 aU ((bm.ext ax aJ).cells)).thenW ?_;rintro _ H8 bX ba ⟨rfl,rfl⟩;cases br:QeQ E1 p.bs with
    | true=>
     rw[br]at ad;simp only[Qb,simprocAttr,L8];exact go H8 ba aA ad _
    | false=>
     rw[br]at ad;simp only[Qb,simprocAttr,LM,k7];exact bq H8 ba aA ad _
end
theorem QFT:∀ (ss:List Value) (ws:List Sv) (i:Nat) (s:Value) (w:Sv),ss[i]? = some s->ws[i]? = some w->((svC ss ws).drop (i * 4)).take 4=[.Z w.at_,s,.string (mkS w.tx),.bool w.is]
 | [],_,_,_,_,h,_=>by simp at h
 | _::_,[],_,_,_,_,h=>by simp at h
 | s::ss,w::ws,0,_,_,h1,h2=>by cases h1;cases h2;rfl
 | s::ss,w::ws,i+1,s',w',h1,h2=>by
  have e:svC (s::ss) (w::ws)=[.Z w.at_,s,.string (mkS w.tx),.bool w.is]++svC ss ws:=rfl;rw[e,show(i+1) * 4=4+i * 4 by omega,<- Rc];exact QFT ss ws i s' w' h1 h2
structure QML (H0 H:Qa) (C:List Value) (n i:Nat) (s:Value) (w:Sv):Prop where
 len:C.length=n * 4
 all:(C.drop (i * 4)).take 4=[.Z w.at_,s,.string (mkS w.tx),.bool w.is]
 c0:C[i * 4]? = some (.Z w.at_)
 c1:C[i * 4+1]? = some s
 c2:C[i * 4+2]? = some (.string (mkS w.tx))
 c3:C[i * 4+3]? = some (.bool w.is)
 bs:Gx 1 5 H0 H s w.bs.length (bys w.bs)
theorem Qb7.at {H0 H:Qa}{a:Option Addr}{n c:Nat}{ws:List Sv}(h:Qb7 H0 H (.slice a n c) ws){i:Nat}{w:Sv}(hi:ws[i]? = some w):∃b,a=some ⟨b,0,none⟩∧∃C s,H.get b=some (.cells C 29 false)∧QML H0 H C ws.length i s w:=by
 obtain⟨ss,ad,ae,ag⟩:=h.it;have aj:=(Lk.1 hi).1;rcases ae with⟨_,h,_⟩ | ⟨b,c',h,ak,ai,_⟩
 ·omega
 ·cases h;obtain⟨s,aa⟩:∃s,ss[i]? = some s:=⟨_,La (by omega)⟩;have ab:=QFT ss ws i s w aa hi;have key:∀ (k:Nat) v,k<4->([.Z w.at_,s,.string (mkS w.tx),.bool w.is]:List Value)[k]? = some v->(svC ss ws)[i * 4+k]? = some v:=λk v ah ac=>by
   rw[<- ab,Nl,Lc ah,Nk]at ac;exact ac
  exact⟨b,rfl,_,s,ai,QBZ ss ws ad,ab,key 0 _ (by omega) rfl,key 1 _ (by omega) rfl,key 2 _ (by omega) rfl,key 3 _ (by omega) rfl,ag i s w aa hi⟩
theorem Qwt (H:Qa)(bs:List Int)(h:bs.length<1000):ZJ (H.push (.cells (bys bs) 5 false)) (.S H.next bs.length bs.length) bs:=
 ⟨_,_,rfl,Lb _,N5 h (by decide),_,_,rfl,λ_=>⟨_,_,_,_,_,rfl,by rw[Qc,Lc rfl],λj aa=>by
  unfold bys;rw[LP,LD,La aa,LX,La aa];rfl⟩⟩
section
variable {T:Qa->Prop} {L:List Fm} {lof:Int->List Fm} (hP:QrH T) (hT:∀H H',H.Wf->T H->Ext H H'->T H') (hO:∀op H,T H->Qe prog 36 [.Z op] H λu H'=>QaY H H' u (lof op)) (hR0:∀H,T H->Qe prog 48 [] H λu H'=>QaY H H' u L) (hty:QhN 64) (hsl:∀f∈L,f.shapes.length=f.slots.length)
include hP hT hO hR0 hty hsl
theorem Qwu {bv:Value}{b:List Int}{o:Int}{ws:List (List UInt8)}{ac ad:Nat}{am:TypeId}{aC:Bool}(H:Qa)(ar:T H)(ag:ZJ H bv b)(av:b.length<=65536)(aB:∀z∈b,0<=z∧z<256)(ax:Qsk b.length o=0)
  (ai:((XA L b b.length 0).map (svP lof o)).map (·.tx)=ws) (ae:H.get ac=some (.cells (ws.map λw=>.string (mkS w)) am aC)):
  Qe prog 19 [bv,.Z o,.S ac ws.length ad] H λu H'=>u=.bool true∧Ext H H':=by
 refine Qfw λay=>?_;have au:=ag;obtain⟨aF,aG,rfl,_⟩:=au;simp only[GB,Qb,simprocAttr];refine(QeU hP hT hO hR0 hty hsl H ar ag av aB ax).thenW ?_;rintro _ H1 aI aJ ⟨v,rfl,ah,hx⟩;have aH:((XA L b b.length 0).map (svP lof o)).length<=65536:=by rw[Nn];have:=QnK L b b.length 0 (L7 _);omega
 generalize (XA L b b.length 0).map (svP lof o)=W at *;obtain⟨ak,al,rfl⟩:=ah.slc;have aA:ws.length=W.length:=by rw[<- ai,Nn]
 have aD:((0:Int)==0)=true:=rfl;have zl:((W.length:Int)==(ws.length:Int))=true:=by rw[aA];exact LO _
 have ap:=(hx.get _ (ay.lt ae)).trans ae;simp only[Qb,simprocAttr,aD,L8,Qr,zl,JN];refine Qp (λm A' H'=>∃i:Nat,i<=W.length∧m=W.length - i∧H'=H1∧A' 2=.S ac ws.length ad∧A' 7=.slice ak W.length al∧A' 9=.Z i) W.length ?_ ?_
 ·refine⟨0,L7 _,by omega,rfl,?_,?_,?_⟩
  all_goals simp only[Qf,simprocAttr]
  all_goals rfl
 ·rintro m A' H' ⟨i,hi,rfl,rfl,r2,ab,aj⟩;simp only[JM,Qb,simprocAttr,ab,aj,Qr];refine Qg (λaa=>?_) (λaa=>?_)
  ·have aa:i<W.length:=by have:=Lg aa;omega
   obtain⟨aE,rfl,C,s,ao,aq⟩:=ah.at (La aa);have d1:(0:Int)<=i∧(i:Int)<W.length:=by omega
   have d2:(0:Int)<=i∧(i:Int)<ws.length:=by omega
   have d3:(i:Int).toNat=i:=by omega
   have an:IntKind.i64.wrap ((i:Int)+1)=((i+1:Nat):Int):=by rw[w64 (by unfold I64;omega)];omega
   have az:(ws.map λw=>Value.string (mkS w))[i]? = some (.string (mkS W[i].tx)):=by rw[LD,<- ai,LD,La aa];rfl
   have aw:=aq.c2;have b1:(bl (mkS W[i].tx)==bl (mkS W[i].tx))=true:=LO _;generalize W[i]=w at *;simp only[JL,Qb,simprocAttr,r2,ab,aj,d1,d2,d3,ao,aw,ap,az,b1,L8,an];refine⟨W.length - (i+1),by omega,i+1,by omega,rfl,rfl,?_,?_,?_⟩
   all_goals simp only[Qf,simprocAttr,r2,ab]
  ·simp only[Qb,simprocAttr,QeH];exact .mk hx.next ⟨rfl,hx⟩
end
structure QKG (L:List Fm) (lof:Int->List Fm):Prop where
 src:QIp L lof [235,254] 0=[111,114,103,32,48,120,48,10,106,109,112,32,115,104,111,114,116,32,48,120,48,10]
 len:∀p∈XA L [235,254] 2 0,(svP lof 0 p).tx.length<=100000
 tx:((XA L [144,6,131,192,5] 5 0).map (svP lof 256)).map (·.tx)=[[110,111,112],[100,98,32,48,120,54],[97,100,100,32,101,97,120,44,32,48,120,53]]
 pln:(XA L [144,6] 2 0).all (okP lof)=true
section
variable {T:Qa->Prop} {L:List Fm} {lof:Int->List Fm} (hP:QrH T) (hT:∀H H',H.Wf->T H->Ext H H'->T H') (hO:∀op H,T H->Qe prog 36 [.Z op] H λu H'=>QaY H H' u (lof op)) (hR0:∀H,T H->Qe prog 48 [] H λu H'=>QaY H H' u L) (hty:QhN 64) (hsl:∀f∈L,f.shapes.length=f.slots.length) (hA:QKG L lof)
include hP hT hO hR0 hty hsl hA
theorem QyR (H:Qa)(ab:T H):Qe prog 9 [] H λu H'=>u=.bool true∧Ext H H':=by
 refine QgC λaa=>?_;have e0:H.push (.cells [.int .u8 235,.int .u8 254] 5 false)=H.push (.cells (bys [235,254]) 5 false):=rfl;simp only[Vf,Qb,simprocAttr,e0];clear e0;have ao:=Qwt H [235,254] (by decide);have ah:=(Ext.refl H).push (.cells (bys [235,254]) 5 false);have aH:=aa.push (.cells (bys [235,254]) 5 false);generalize H.push (.cells (bys [235,254]) 5 false)=H0 at *;refine(QsT hP hT hO hR0 hty hsl (o:=0) H0 (hT _ _ aa ab ah) ao (by decide) (by intro z ad;simp only[LK,Ns,NN]at ad;omega) rfl (by unfold I64;omega) hA.len).thenW ?_;rintro _ H1 aE au ⟨rfl,ax⟩;rw[hA.src];have ay:=ah.trans ax;have e1:H1.push (.cells [.int .u8 144,.int .u8 6,.int .u8 131,.int .u8 192,.int .u8 5] 5 false)=H1.push (.cells (bys [144,6,131,192,5]) 5 false):=rfl;simp only[Qb,simprocAttr,e1,QuM,Lo,L9,List.drop_succ_cons,Lw,Nm,LH,List.take_succ_cons,Rb];clear e1;have ae:=Qwt H1 [144,6,131,192,5] (by decide);have az:=(Ext.refl H1).push (.cells (bys [144,6,131,192,5]) 5 false);have av:=au.push (.cells (bys [144,6,131,192,5]) 5 false);have aq:(H1.push (.cells (bys [144,6,131,192,5]) 5 false)).next=H1.next+1:=rfl;generalize H1.push (.cells (bys [144,6,131,192,5]) 5 false)=H2 at *;rw[<- aq];have ag:=ae.ext av ((Ext.refl H2).push (.cells ([[110,111,112],[100,98,32,48,120,54],[97,100,100,32,101,97,120,44,32,48,120,53]].map λw=>.string (mkS w)) 9 false));have ai:=(Ext.refl H2).push (.cells ([[110,111,112],[100,98,32,48,120,54],[97,100,100,32,101,97,120,44,32,48,120,53]].map λw=>.string (mkS w)) 9 false);have g3:(H2.push (.cells ([[110,111,112],[100,98,32,48,120,54],[97,100,100,32,101,97,120,44,32,48,120,53]].map λw=>.string (mkS w)) 9 false)).get H2.next=some (.cells ([[110,111,112],[100,98,32,48,120,54],[97,100,100,32,101,97,120,44,32,48,120,53]].map λw=>.string (mkS w)) 9 false):=by rw[Qc,Lc rfl]
 have ac:=(ay.trans az).trans ai;refine(Qwu hP hT hO hR0 hty hsl (o:=256) (H2.push (.cells ([[110,111,112],[100,98,32,48,120,54],[97,100,100,32,101,97,120,44,32,48,120,53]].map λw=>.string (mkS w)) 9 false)) (hT _ _ aa ab ac) ag (by decide) (by intro z ad;simp only[LK,Ns,NN]at ad;omega) rfl hA.tx g3).thenW ?_;rintro _ H4 aF aw ⟨rfl,aj⟩;have ak:=ac.trans aj;clear g3 ag ae ai aj ac;have aC:((0:Int)==0)=true:=rfl;have aD:(bl (mkS [111,114,103,32,48,120,48,10,106,109,112,32,115,104,111,114,116,32,48,120,48,10])==bl (mkS [111,114,103,32,48,120,48,10,106,109,112,32,115,104,111,114,116,32,48,120,48,10]))=true:=LO _;have an:H4.push (.cells [.int .u8 144,.int .u8 6] 5 false)=H4.push (.cells (bys [144,6]) 5 false):=rfl;simp only[Qb,simprocAttr,aC,aD,an];have ap:=Qwt H4 [144,6] (by decide);have al:=(Ext.refl H4).push (.cells (bys [144,6]) 5 false);have aI:=aw.push (.cells (bys [144,6]) 5 false);generalize H4.push (.cells (bys [144,6]) 5 false)=H5 at *;refine(QtX hT hO hR0 hty hsl H5 (hT _ _ aa ab (ak.trans al)) ap (by decide)).thenW ?_;rintro aB H6 aG aJ ⟨ar,aA⟩;obtain rfl:aB=.bool true:=ar.trans (congrArg Value.bool hA.pln);have am:=(ak.trans al).trans aA;simp only[Qb,simprocAttr,Qfr];exact .mk am.next ⟨rfl,am⟩
end
def Pc.up (k:Nat)(p:Pc):Pc:={p with at_:=k+p.at_}
theorem QAO (L:List Fm)(b:List Int)(k a:Nat):Y2 L b (k+a)=(Y2 L (b.drop k) a).up k:=by
 unfold Y2;rw[Rc];split<;>rfl
theorem QyS (L:List Fm)(b:List Int)(k:Nat):∀ (n a:Nat),XA L b n (k+a)=(XA L (b.drop k) n a).map (Pc.up k)
 | 0,a=>rfl
 | n+1,a=>by
  show(if k+a<b.length then _ else _)=List.map (Pc.up k) (if a<(b.drop k).length then _ else _);rw[NT]
  by_cases h:k+a<b.length
  ·rw[Lc h,Lc (by omega),QAO,NZ];congr 1;show XA L b n (k+a+(Y2 L (b.drop k) a).bs.length)=_;rw[Rh];exact QyS L b k n _
  ·rw[Le h,Le (by omega)];rfl
theorem QsV (L:List Fm)(b:List Int):∀ (n m a:Nat),b.length<=a+n->b.length<=a+m->XA L b n a=XA L b m a
 | 0,0,a,_,_=>rfl
 | 0,m+1,a,h,_=>by show[]=(if a<b.length then _ else _);rw[Le (by omega)]
 | n+1,0,a,_,h=>by show(if a<b.length then _ else _)=[];rw[Le (by omega)]
 | n+1,m+1,a,h,h'=>by
  show(if a<b.length then _ else _)=(if a<b.length then _ else _)
  by_cases aa:a<b.length
  ·rw[Lc aa,Lc aa];have:=(@Qga L b a aa).1;rw[QsV L b n m (a+(Y2 L b a).bs.length) (by omega) (by omega)]
  ·rw[Le aa,Le aa]
theorem QFZ (L:List Fm)(b:List Int)(a:Nat):(Y2 L b a).at_=a:=by
 unfold Y2;split<;>rfl
theorem QyT (L:List Fm)(b:List Int):∀ (n a j:Nat) (p:Pc),b.length<=a+n->(XA L b n a)[j]? = some p->p.at_<b.length∧(XA L b n a).drop j=XA L b b.length p.at_
 | 0,a,j,p,_,h=>by simp[XA]at h
 | n+1,a,j,p,hn,h=>by
  have e:XA L b (n+1) a=if a<b.length then Y2 L b a::XA L b n (a+(Y2 L b a).bs.length) else[]:=rfl
  rw[e]at h ⊢
  by_cases aa:a<b.length
  ·rw[Lc aa]at h ⊢;cases j with
   | zero=>
    have ab:Y2 L b a=p:=by simpa using h
    subst ab;rw[QFZ];refine⟨aa,?_⟩;rw[Lw,<- QsV L b (n+1) b.length a hn (by omega),e,Lc aa]
   | succ j=>
    have:=(@Qga L b a aa).1;exact QyT L b n _ j p (by omega) (by simpa using h)
  ·rw[Le aa]at h;simp at h
theorem QKK (lof:Int->List Fm)(k:Nat)(p:Pc):svP lof 0 (p.up k)=svP lof k p:=by
 unfold svP Pc.up;simp only[Int.zero_add,Int.natCast_add]
theorem QF0 (L:List Fm)(lof:Int->List Fm)(b:List Int){j:Nat}{p:Pc}(h:(XA L b b.length 0)[j]? = some p):
  p.at_<b.length∧((XA L b b.length 0).map (svP lof 0)).drop j=(XA L (b.drop p.at_) (b.drop p.at_).length 0).map (svP lof p.at_):=by
 obtain⟨ab,ac⟩:=QyT L b b.length 0 j p (by omega) h;refine⟨ab,?_⟩;rw[<- List.map_drop,ac];have aa:=QyS L b p.at_ b.length 0;rw[N9]at aa;rw[aa,Ht,QsV L (b.drop p.at_) b.length (b.drop p.at_).length 0 (by rw[NT];omega) (by omega)];exact DC λq _=>QKK lof p.at_ q
theorem QIt (v u:Value)(l m:List Int)(H:Qa)(ad:∃a c,v=.slice a l.length c∧WB 1 v H=some (bys l))(ac:∃a c,u=.slice a m.length c∧WB 1 u H=some (bys m)):Qe prog 7 [v,u] H λx H'=>x=.bool (QeQ l m)∧H'=H:=by
 refine QeG λae=>?_;obtain⟨a,c,rfl,aa⟩:=ad;obtain⟨a2,c2,rfl,ab⟩:=ac;simp only[Kx,Qb,simprocAttr];rw[Qfa (a:=a) (n:=l.length) (c:=c) (by kernel_rfl) (by simp only[Qf,simprocAttr]) aa (Qdl l)];simp only[Qb,simprocAttr];rw[Qfa (a:=a2) (n:=m.length) (c:=c2) (by kernel_rfl) (by simp only[Qf,simprocAttr]) ab (Qdl m)];simp only[Qb,simprocAttr,Qdx];exact .mk (Lb _) ⟨by rw[Xh,Xh];rfl,rfl⟩
theorem QyU (l:List Int):QeQ l l=true:=LO _
theorem ZJ.from {H:Qa}{v:Value}{bs:List Int}(h:ZJ H v bs){p:Nat}(ac:p<=bs.length):∃w,Y3 1 v (some (p:Int)) none none=some w∧ZJ H w (bs.drop p):=by
 obtain⟨w,aa,ab⟩:=h.sub (p:=p) (n:=bs.length - p) (by omega);rw[LF (by rw[NT];omega)]at ab;refine⟨w,?_,ab⟩;obtain⟨a,cap,rfl,_⟩:=h;rw[show p+(bs.length - p)=bs.length by omega]at aa;rw[<- aa];cases a<;>rfl
theorem QKL {lof:Int->List Fm}{o:Int}{p:Pc}{n:Nat}(h:p.at_<n)(ac:n<=65536)(aa:0<=o)(ab:o<=140737488355328):(svP lof o p).at_=o+p.at_:=by
 show IntKind.i64.wrap _=_;rw[w64 (by unfold I64;omega)]
section
variable {T:Qa->Prop} {L:List Fm} {lof:Int->List Fm} (hP:QrH T) (hT:∀H H',H.Wf->T H->Ext H H'->T H') (hO:∀op H,T H->Qe prog 36 [.Z op] H λu H'=>QaY H H' u (lof op)) (hR0:∀H,T H->Qe prog 48 [] H λu H'=>QaY H H' u L) (hty:QhN 64) (hsl:∀f∈L,f.shapes.length=f.slots.length) (hA:QKG L lof)
include hP hT hO hR0 hty hsl hA
theorem QDB {bv:Value}{b:List Int}{aa:Int}(H:Qa)(aq:T H)(ar:ZJ H bv b)(aL:∀z∈b,0<=z∧z<256)(br:I64 aa):
  Qe prog 4 [bv,.Z aa] H λu H'=>u=.bool true∧Ext H H':=by
 refine QeF λan=>?_;have bj:=ar;obtain⟨bC,bD,rfl,_⟩:=bj;simp only[Kw,Qb,simprocAttr];refine(QyR hP hT hO hR0 hty hsl hA H aq).thenW ?_;rintro _ H1 bJ bM ⟨rfl,ag⟩;simp only[Qb,simprocAttr,Qr]
 by_cases aC:(b.length:Int)>40
 ·have z:decide ((b.length:Int)>40)=true:=Lp aC;simp only[Qb,simprocAttr,z,XU];exact .mk ag.next ⟨rfl,ag⟩
 have z:decide ((b.length:Int)>40)=false:=Lj aC;simp only[Qb,simprocAttr,z,Jg];have aE:∀ (n:Nat) (o:Int),n<=40->0<=o->o<=40->Qsk n o=0:=λn o bF aj bG=>by unfold Qsk;rw[Le (by omega),Le (by omega)]
 refine(QeU hP hT hO hR0 hty hsl (o:=0) H1 (hT _ _ an aq ag) (ar.ext an ag) (by omega) aL (aE _ _ (by omega) (by omega) (by omega))).thenW ?_;rintro _ H2 bK ao ⟨v,rfl,am,bu⟩;have ah:=ag.trans bu;have bH:=QnK L b b.length 0 (L7 _);obtain⟨W,al⟩:∃W,W=(XA L b b.length 0).map (svP lof 0):=⟨_,rfl⟩;rw[<- al]at am;have bh:W.length=(XA L b b.length 0).length:=by rw[al,Nn]
 obtain⟨b9,aT,rfl⟩:=am.slc;have aP:((0:Int)==0)=true:=rfl;simp only[Qb,simprocAttr,aP,L8,Jf,Qr];cases ab:((W.length:Int)==0) with
 | true=>
  have ab:=eq_of_beq ab;have bi:b.length=0:=by
   rcases B6 b.length with h | h
   ·exact h
   ·exfalso;obtain⟨n,bp⟩:∃n,b.length=n+1:=⟨b.length - 1,by omega⟩;have e:XA L b b.length 0=Y2 L b 0::XA L b n (0+(Y2 L b 0).bs.length):=by
     rw[bp];show(if 0<b.length then _ else _)=_;rw[Lc h]
    rw[bh,e,Lo]at ab;omega
  have b7:((b.length:Int)==0)=true:=by rw[bi];rfl
  simp only[Qb,simprocAttr,Qr,b7,XU];exact .mk ah.next ⟨rfl,ah⟩
 | false=>
  have ab:W.length≠0:=λh=>by rw[h]at ab;cases ab
  simp only[Qb,simprocAttr,Je,Qr];refine(Qdu aa W.length br (by omega) H2).thenW ?_;rintro _ H2 _ ao ⟨rfl,rfl⟩;obtain⟨k,bm⟩:∃k:Nat,aa % (W.length:Int)=(k:Int):=⟨(aa % (W.length:Int)).toNat,by have:=Bk aa (b:=(W.length:Int)) (by omega);omega⟩;have bI:k<W.length:=by have:=NS aa (b:=(W.length:Int)) (by omega);omega
  rw[bm];obtain⟨p,aG⟩:∃p,(XA L b b.length 0)[k]? = some p:=⟨_,La (by omega)⟩;have bg:W[k]? = some (svP lof 0 p):=by rw[al,LD,aG];rfl
  obtain⟨bq,aF⟩:=QF0 L lof b aG;rw[<- al]at aF;have aW:(svP lof 0 p).at_=(p.at_:Int):=by rw[QKL bq (by omega) (by omega) (by omega)];omega
  obtain⟨az,rfl,C,s,ai,ba⟩:=am.at bg;have au:=ba.c0;rw[aW]at au;have d1:(0:Int)<=k∧(k:Int)<W.length:=by omega
  have d3:(k:Int).toNat=k:=by omega
  have aM:=ao.lt ai;simp only[Qb,simprocAttr,d1,d3,ai,au,Qr];refine⟨aM,?_⟩;refine(Qdu p.at_ b.length (by unfold I64;omega) (by omega) H2).thenW ?_;rintro _ H2 _ ao ⟨rfl,rfl⟩;have bo:(p.at_:Int) % (b.length:Int)=p.at_:=Int.emod_eq_of_lt (by omega) (by omega);rw[bo];obtain⟨w,aZ,aD⟩:=(ar.ext an ah).from (p:=p.at_) (by omega);obtain⟨bR,bS,rfl,_⟩:=id aD;refine⟨λ_ _=>rfl,?_⟩;simp only[Qb,simprocAttr];refine⟨_,aZ,?_⟩;simp only[Qb,simprocAttr,d1,d3,ai,au];refine⟨rfl,?_⟩;refine(QeU hP hT hO hR0 hty hsl (o:=p.at_) H2 (hT _ _ an aq ah) aD (by rw[NT];omega) (λz h=>aL z (List.mem_of_mem_drop h)) (aE _ _ (by rw[NT];omega) (by omega) (by omega))).thenW ?_;rintro _ H3 bL aH ⟨bQ,rfl,av,aw⟩;rw[<- aF]at av;obtain⟨a3,c3,rfl⟩:=av.slc;have bn:(W.drop k).length=W.length - k:=NT;have b8:(((W.drop k).length:Int)==IntKind.i64.wrap ((W.length:Int) - (k:Int)))=true:=by rw[w64 (by unfold I64;omega),bn];simp;omega
  have aJ:=ah.trans aw;simp only[Qb,simprocAttr,aP,L8,Qr,b8,Jd];have bE:=(aw.get _ aM).trans ai;refine Qp (λm A' H'=>∃i:Nat,i<=W.length - k∧m=W.length - k - i∧H'.Wf∧Ext H3 H'∧A' 1=.Z k∧A' 5=.bool true∧A' 6=.S az W.length aT∧A' 8=.slice a3 (W.drop k).length c3∧A' 10=.Z i) (W.length - k) ?_ ?_
  ·refine⟨0,L7 _,by omega,aH,.refl _,?_,?_,?_,?_,?_⟩
   all_goals simp only[Qf,simprocAttr]
   all_goals rfl
  ·rintro m A' H' ⟨i,hi,rfl,ad,ae,r1,aN,aO,r8,ay⟩;simp only[Jc,Qb,simprocAttr,r8,ay,Qr];refine Qg (λaj=>?_) (λaj=>?_)
   ·have aj:i<W.length - k:=by have:=Lg aj;omega
    obtain⟨x,aK⟩:∃x,W[k+i]? = some x:=⟨_,La (by omega)⟩;have bw:(W.drop k)[i]? = some x:=by rw[Nk];exact aK
    obtain⟨aS,aV,D,bP,aB,ac⟩:=(av.go aH ae).at bw;subst aV;obtain⟨bA,aU,C',bO,aA,ak⟩:=((am.go ao (aw.trans ae)).at aK);cases aU;have aY:IntKind.i64.wrap ((k:Int)+(i:Int))=((k+i:Nat):Int):=by rw[w64 (by unfold I64;omega)];omega
    have aX:IntKind.i64.wrap ((i:Int)+1)=((i+1:Nat):Int):=by rw[w64 (by unfold I64;omega)];omega
    have d1:(0:Int)<=((k+i:Nat):Int)∧((k+i:Nat):Int)<W.length:=by omega
    have d2:(0:Int)<=i∧(i:Int)<(W.drop k).length:=by omega
    have d3:((k+i:Nat):Int).toNat=k+i:=by omega
    have d4:(i:Int).toNat=i:=by omega
    have d7:(k+i) * 4+4<=W.length * 4:=by omega
    have bd:=ak.len;have bc:=ak.all;have b2:=ac.c0;have b3:=ac.c1;have b4:=ac.c2;have b5:=ac.c3;obtain⟨b6,sc,rfl⟩:=ak.bs.slc;have bN:=ad.lt aB;have bz:(aS=H'.next)=False:=by simp;omega
    have bx:(az=H'.next)=False:=by simp;have:=ad.lt aA;omega
    have aR:(x.is==x.is)=true:=LO _;have b0:(x.at_==x.at_)=true:=LO _;have aQ:(bl (mkS x.tx)==bl (mkS x.tx))=true:=LO _;simp only[Jb,Qb,simprocAttr,r1,aO,r8,ay,aY,d1,d2,d3,d4,d7,aA,bd,bc,bz,bx,aB,b2,b3,b4,b5,b0,aQ,aR,QsR,LJ];obtain⟨H5,ap⟩:∃h,h=(H'.push (.cells [.Z 0,.slice none 0 0,.string (mkS []),.bool false] 29 false)).set H'.next (.cells [.Z x.at_,.slice b6 x.bs.length sc,.string (mkS x.tx),.bool x.is] 29 false):=⟨_,rfl⟩;have ax:Ext H' H5:=by rw[ap];exact((Ext.refl H').push _).set (Lb _) _
    have aI:H5.Wf:=by rw[ap];exact(ad.push _).set (by rw[Qc,Lc rfl]) _
    simp only[<- ap];refine(QIt _ _ x.bs x.bs H5 (ac.bs.go ad ax).cellsB (ak.bs.go ad ax).cellsB).thenW ?_;rintro _ H5 _ aI ⟨rfl,rfl⟩;rw[QyU];simp only[Qb,simprocAttr,L8,ay,aX];refine⟨W.length - k - (i+1),by omega,i+1,by omega,rfl,aI,ae.trans ax,?_,?_,?_,?_,?_⟩
    all_goals simp only[Qf,simprocAttr,r1,aN,aO,r8]
   ·simp only[Qb,simprocAttr,aN,XU];exact .mk (aJ.trans ae).next ⟨rfl,aJ.trans ae⟩
end
end Go.Proofs.YtopkfjiipdjbmaaGreatDoor.code
