import Derived.Test.YtopkfjiipdjbmaaGreatDoorC8Sweep
import Derived.Test.YtopkfjiipdjbmaaGreatDoorLibR
import Derived.Test.YtopkfjiipdjbmaaGreatDoorLibB
import Derived.Test.YtopkfjiipdjbmaaGreatDoorLibI
import Derived.Test.YtopkfjiipdjbmaaGreatDoorAbD
import Derived.Test.YtopkfjiipdjbmaaGreatDoorLibC
import Derived.Test.YtopkfjiipdjbmaaGreatDoorLibN
import Derived.Test.YtopkfjiipdjbmaaGreatDoorLibO
import Derived.Test.YtopkfjiipdjbmaaGreatDoorLibA
set_option linter.defProp false
set_option linter.unusedVariables false
set_option linter.unusedSimpArgs false
set_option maxRecDepth 100000
set_option maxHeartbeats 4000000
noncomputable section
namespace Go.Proofs.YtopkfjiipdjbmaaGreatDoor.code
open Go.Ab
def ZJ (H:Qa)(v:Value)(bs:List Int):Prop:=∃a cap,v=.slice a bs.length cap∧bs.length<=cap∧cap<UNK∧Qh3 H v bs
def ZJ.ext {H H':Qa}{v:Value}{bs:List Int}(ag:H.Wf)(ae:Ext H H')(h:ZJ H v bs):ZJ H' v bs:=by
 obtain⟨a,cap,aa,ab,ac,ad⟩:=h;exact⟨a,cap,aa,ab,ac,ad.ext ag ae⟩
def QE0 {bs:List Int}{p n k:Nat}(h:k<n):((bs.drop p).take n).getD k 0=bs.getD (p+k) 0:=by
 rw[LX,LX,Nl,Lc h,Nk]
def ZJ.sub {H:Qa}{v:Value}{bs:List Int}(h:ZJ H v bs){p n:Nat}(al:p+n<=bs.length):∃w,Y3 1 v (some (p:Int)) (some ((p+n:Nat):Int)) none=some w∧ZJ H w ((bs.drop p).take n):=by
 have aa:((bs.drop p).take n).length=n:=by rw[Sb,NT];omega
 obtain⟨a,cap,rfl,aj,ak,a0,c0,e,ac⟩:=h;cases e;cases a with
 | none=>
  have ai:bs.length=0:=by
   rcases B6 bs.length with h | h;·exact h
   obtain⟨_,_,_,_,_,h,_⟩:=ac h;cases h
  unfold Y3;simp only[NB,Br];rw[Lc (by omega)];refine⟨_,rfl,none,cap - p,by rw[aa,show((p+n:Nat):Int).toNat - (p:Int).toNat=n by omega];simp,by omega,by omega,none,_,by rw[aa,show((p+n:Nat):Int).toNat - (p:Int).toNat=n by omega],λh=>by rw[aa]at h;omega⟩
 | some ab=>
  unfold Y3;simp only[NB,Br];rw[Le (by omega),Lc (by omega)];refine⟨.slice (some (if(cap:Int).toNat=(p:Int).toNat then ab else⟨ab.block,ab.off+(p:Int).toNat * 1,none⟩)) n (cap - p),by simp only[show((p+n:Nat):Int).toNat - (p:Int).toNat=n by omega,show(cap:Int).toNat - (p:Int).toNat=cap - p by omega],_,cap - p,by rw[aa],by omega,by omega,_,_,by rw[aa],λh=>?_⟩;rw[aa]at h;obtain⟨b,o,e,ro,cs,ae,ah,ag⟩:=ac (by omega);cases ae;rw[Le (by omega)];refine⟨b,o+p,e,ro,cs,by simp,ah,λj ad=>?_⟩;rw[aa]at ad;rw[QE0 ad,Rh];exact ag (p+j) (by omega)
def Qx6 {cs:List Value}{o:Nat}{bs:List Int}(h:∀j,j<bs.length->cs[o+j]? = some (.int .u8 (bs.getD j 0))):(cs.drop o).take bs.length=bys bs:=by
 refine BA λi=>?_;unfold bys;rw[Nl,LD];split;·rename_i hi;rw[Nk,h i hi,LX,La hi];rfl
 rename_i hi;rw[N7 (by omega)];rfl
def QBw {cs:List Value}{o:Nat}{bs:List Int}(aa:0<bs.length)(h:∀j,j<bs.length->cs[o+j]? = some (.int .u8 (bs.getD j 0))):o+bs.length<=cs.length:=by
 have:=(Lk.1 (h (bs.length - 1) (by omega))).1;omega
def ZJ.src {H:Qa}{v:Value}{bs:List Int}(h:ZJ H v bs):YX 1 v H=some (bs.length,bys bs):=by
 obtain⟨a,cap,rfl,_,_,_,_,e,ac⟩:=h;cases e
 by_cases ab:bs.length=0;·have:bs=[]:=N2.1 ab;subst this;cases a<;>simp[YX,bys]
 obtain⟨b,o,e,ro,cs,rfl,ad,aa⟩:=ac (by omega);have ae:=QBw (by omega) aa;rw[KM ad (by omega) (by omega),NH,Qx6 aa]
def ZJ.cells {H:Qa}{v:Value}{bs:List Int}(h:ZJ H v bs):∃a c,v=.slice a bs.length c∧WB 1 v H=some (bys bs):=by
 obtain⟨a,cap,rfl,_,_,_,_,e,ac⟩:=h;cases e;refine⟨_,_,rfl,?_⟩
 by_cases ab:bs.length=0;·have:bs=[]:=N2.1 ab;subst this;cases a<;>simp[WB,bys]
 obtain⟨b,o,e,ro,cs,rfl,ad,aa⟩:=ac (by omega);have ae:=QBw (by omega) aa;simp only[WB,ad];rw[Le (by omega),Lc (by omega),NH,Qx6 aa]
def QE1 (v:Value)(bs:List Int)(H:Qa)(ab:ZJ H v bs)(aa:0<bs.length)(al:bs.length<=1000000):Qe Pg 14 [v] H λu H'=>Gx 1 5 H H' u bs.length (bys bs)∧Ext H H'∧∃b,u=.S b bs.length (UNK+1)∧b<H'.y:=by
 refine Qdy λag=>?_;have ae:=(ab.ext ag ((Ext.refl H).push (.C [] 5))).src;obtain⟨a0,cap,rfl,_,_,_,_,e,ad⟩:=ab;cases e;obtain⟨b,o,e,ro,cs,rfl,ai,ak⟩:=ad aa;have ah:=(Ext.refl H).push (.C [] 5);have aj:=ZR bs;simp(disch:=(try simp only[hnP])<;>try omega) only[JK,QF,simprocAttr]
 rw[Qxq (a:=some ⟨b,o,none⟩) (e:=5) (n:=bs.length) (c:=cap) (by kernel_rfl) (by simp only[Wu,simprocAttr])];simp(disch:=(try simp only[hnP])<;>try omega) only[Qb,simprocAttr,Qrn,simprocAttr,Option.isNone]
 refine QjJ (c:=[]) (ro:=false) (e':=5) ae (Qb5 _) (by omega) (Qio rfl) (by simp) (by omega) (by omega) (by decide) (by omega) ?_;simp(disch:=(try simp only[hnP])<;>try omega) only[Qb,simprocAttr,Qrn,simprocAttr,QcC]
 have ac:=ah.push (.C (bys bs) 5);refine .mk ac.y ⟨.inr ⟨H.y+1,_,rfl,by omega,by rw[Qc,Lc (by rw[Qd])],by omega,.inr ⟨rfl,aa⟩⟩,ac,_,rfl,by rw[Qd,Qd];omega⟩
def txB (l:List Int):List UInt8:=l.map λz=>z.toNat.toUInt8
def Qdl:∀l:List Int,Y6 (bys l)=some (txB l)
 | []=>rfl
 | z::l=>by
  have:=Qdl l;unfold bys txB at *;simp only[NZ,Y6,this];rfl
def QeQ (l m:List Int):Bool:=txB l==txB m
def QkW (v u:Value)(l m:List Int)(H:Qa)(ad:∃a c,v=.slice a l.length c∧WB 1 v H=some (bys l))(ac:∃a c,u=.slice a m.length c∧WB 1 u H=some (bys m)):Qe Pg 22 [v,u] H λx H'=>x=.bool (QeQ l m)∧H'=H:=by
 refine Qr3 λae=>?_;obtain⟨a,c,rfl,aa⟩:=ad;obtain⟨a2,c2,rfl,ab⟩:=ac;simp only[QiO,Qb,simprocAttr];rw[Qfa (a:=a) (n:=l.length) (c:=c) (by kernel_rfl) (by simp only[Qf,simprocAttr]) aa (Qdl l)];simp only[Qb,simprocAttr];rw[Qfa (a:=a2) (n:=m.length) (c:=c2) (by kernel_rfl) (by simp only[Qf,simprocAttr]) ab (Qdl m)];simp only[Qb,simprocAttr,Qqd];exact .mk (Lb _) ⟨by rw[Xh,Xh];rfl,rfl⟩
def Gx.cellsB {H0 H:Qa}{v:Value}{l:List Int}(h:Gx 1 5 H0 H v l.length (bys l)):∃a c,v=.slice a l.length c∧WB 1 v H=some (bys l):=by
 rcases h with⟨rfl,h,_⟩ | ⟨b,c,rfl,_,ab,_⟩;·have:l=[]:=N2.1 h;subst this;exact⟨none,0,rfl,rfl⟩
 refine⟨_,_,rfl,?_⟩
 by_cases aa:l.length=0;·have:l=[]:=N2.1 aa;subst this;simp[WB,bys]
 have ac:=ZR l;simp only[WB,aa,LN,ab];rw[Lc (by omega),Lw,LF (by omega)]
def Qsk (n:Nat)(o:Int):Int:=if 65536<n then 3 else if o<0∨140737488355328<o then 5 else 0
def QkX (v:Value)(bs:List Int)(o:Int)(H:Qa)(ac:ZJ H v bs):Qe Pg 12 [v,.Z o] H λx H'=>x=.Z (Qsk bs.length o)∧H'=H:=by
 refine Qr2 λad=>?_;obtain⟨a,c,rfl,_⟩:=ac;unfold Qsk;simp only[QiN,Qb,simprocAttr];refine Qg (λh=>?_) (λh=>?_);·have h:=Lg h;rw[Lc (by omega)];simp only[Qb,simprocAttr,KS];exact .mk (Lb _) ⟨rfl,rfl⟩
 have h:=Ll h;rw[Le (by omega)];simp only[Qfv,Qb,simprocAttr];cases aa:decide (o<0) with
 | true=>
  have aa:=Lg aa;rw[Lc (.inl aa)];simp only[Qb,simprocAttr,KS];exact .mk (Lb _) ⟨rfl,rfl⟩
 | false=>
  have aa:=Ll aa;simp only[Qb,simprocAttr];refine Qg (λab=>?_) (λab=>?_);·have ab:=Lg ab;rw[Lc (.inr (by omega))];simp only[Qb,simprocAttr,KS];exact .mk (Lb _) ⟨rfl,rfl⟩
  have ab:=Ll ab;rw[Le (by omega)];simp only[Qb,simprocAttr,KS];exact .mk (Lb _) ⟨rfl,rfl⟩
def QBV (L:List Fm)(x aa:Int):Bool:=match L[x.toNat]? with | some f=>decide (0<=Qy f.shapes aa) | none=>false
def byF (L:List Fm)(Q:List Ld)(bs:List Int)(aa:Int):Bool:=Q.any λc=>QeQ c.b bs&&QBV L c.x aa
def Qk8 (L:List Fm)(op:Int)(l:List Ar)(bs:List Int):Int:=
 if(l.any λa=>a.k==4)=false then 0 else if byF L (Qka L op l).1 bs 26=true then 1 else if byF L (Qka L op l).1 bs 27=true then 2 else 0
def QFy {L:List Fm}{op:Int}{l:List Ar}{c:Ld}(h:c∈(Qka L op l).1):∃ (k:Nat) (f:Fm),L[k]? = some f∧c.x=k:=by
 unfold Qka at h;split at h;·cases h
 split at h;·cases h
 obtain⟨m,_,k,f,aa,w,_,rfl⟩:=QBU h;exact⟨k,f,aa,rfl⟩
def QFz {L:List Fm}{op:Int}{l:List Ar}(h:L.length<=6000):(Qka L op l).1.length<=288000:=by
 unfold Qka;split;·simp
 split;·simp
 exact QBT h
def QFA (a:Ar)(H:Qa):Qe Pg 40 [.agg a.cells.toArray] H λu H'=>u=.bool (a.k==4)∧Ext H H':=by
 refine QhY λai=>?_;obtain⟨aa,⟨ag,ah⟩,⟨⟨ab,ac⟩,⟨ad,ae⟩,sc,d,sz⟩,n⟩:=a;simp only[Ar.cells,VW,Qb,simprocAttr,QgD];have hx:=(Ext.refl H).push (.C [.Z aa,.Z ag,.Z ah,.Z ab,.Z ac,.Z ad,.Z ae,.Z sc,.Z d,.Z sz,.Z n] 95);exact .mk hx.y ⟨rfl,hx⟩
section
variable {T:Qa->Prop} {L:Int->List Fm} (hT:∀H H',H.Wf->T H->Ext H H'->T H') (hO:∀op H,T H->Qe Pg 36 [.Z op] H λu H'=>QaY H H' u (L op))
include hT hO
def QsK {op:Int}{va bv:Value}{l:List Ar}{bs:List Int}(is:Bool)(aa:Int)(H:Qa)(aJ:T H)(aK:QQ H va l)(b8:∀n,H.y<=n->Qj n 6 (.agg #[.Z op,va])=true)(b2:l.length<=1000)(bm:∀a∈l,I64 a.n)(aM:ZJ H bv bs):
  Qe Pg 41 [.agg #[bv,.Z op,va,.bool is],.Z aa] H λu H'=>u=.bool (byF (L op) (Qka (L op) op l).1 bs aa)∧Ext H H':=by
 refine QmG λag=>?_;obtain⟨a0,cap,rfl⟩:=Wd aK;have bp:=aM;obtain⟨ba,bc,rfl,_⟩:=bp;simp only[QdU,Wu,simprocAttr];generalize aj:Qa.push H _=H1;have g1:H1.get H.y=some (.C [.slice ba bs.length bc,.Z op,.slice a0 l.length cap,.bool is] 44):=by rw[<- aj,Qc,Lc rfl];rfl
 have ao:Ext H H1:=by rw[<- aj];exact(Ext.refl H).push _
 have b9:H1.Wf:=by rw[<- aj];exact ag.push _
 clear aj;simp only[Qb,simprocAttr,g1];refine(Qwn hT hO H1 (hT _ _ ag aJ ao) (aK.ext ag ao) (λn bK=>b8 n (by have:=ao.y;omega)) b2 bm).w ?_;rintro _ H2 bL aS ⟨bP,rfl,bj,aU⟩;have g2:=(aU.get _ (b9.lt g1)).trans g1;have aV:=ao.trans aU;simp only[Qb,simprocAttr,g2];refine(hO op H2 (hT _ _ ag aJ aV)).w ?_;rintro bG H3 bM ai ⟨av,ab,aq,bC,bE,bN⟩;have g3:=(av.get _ (aS.lt g2)).trans g2;have bA:=aV.trans av;have aI:=bj.ls.go aS av;have b5:∀c∈(Qka (L op) op l).1,∃ (k:Nat) (f:Fm),(L op)[k]? = some f∧c.x=k:=λc al=>QFy al;have bI:(Qka (L op) op l).1.length<=288000:=QFz (by rw[<- aq,Nn];exact bE);generalize bH:(Qka (L op) op l).1=Q at *;obtain⟨aY,bd,rfl⟩:=aI.slc;obtain⟨⟨bg,bh,rfl,bq⟩,br⟩:=bC.fms;simp only[Qb,simprocAttr];refine Qp (λq A' H'=>∃i:Nat,i<=Q.length∧q=Q.length - i∧H'.Wf∧Ext H3 H'∧A' 1=.Z aa∧A' 2=.P H.y∧A' 7=.slice bg ab.length bh∧A' 20=.slice aY Q.length bd∧A' 21=.Z Q.length∧A' 22=.Z i∧byF (L op) (Q.take i) bs aa=false) Q.length ?_ ?_
 ·refine⟨0,L7 _,by omega,ai,.refl _,?_,?_,?_,?_,?_,?_,rfl⟩
  all_goals simp only[Qf,simprocAttr]
  all_goals rfl
 rintro q A' H' ⟨i,hi,rfl,ah,ad,r1,r2,aC,aA,aB,ap,ar⟩;have ax:=bA.trans ad;have aH:=(ad.get _ (ai.lt g3)).trans g3;simp only[Qbu,Qb,simprocAttr,aB,ap];refine Qg (λac=>?_) (λac=>?_)
 ·have ac:i<Q.length:=by have:=Lg ac;omega
  obtain⟨ss,b7,bx,bw⟩:=(aI.go ai ad).it;obtain⟨b,rfl,bu⟩:∃b,aY=some ⟨b,0,none⟩∧H'.get b=some (.C (ldC ss Q) 91):=by
   rcases bx with⟨h,h',_⟩ | ⟨b,c,h,bO,bF,_⟩;·omega
   cases h;exact⟨b,rfl,bF⟩
  obtain⟨sv,aR⟩:∃sv,ss[i]? = some sv:=⟨_,La (by omega)⟩;obtain⟨c,am⟩:∃c,Q[i]? = some c:=⟨_,La ac⟩;have aP:=bw i sv c aR am;have aL:=QsJ ss Q i sv c aR am;have b4:(ldC ss Q).length=Q.length * 3:=by rw[QnC _ _ b7]
  obtain⟨k,f,an,aW⟩:=b5 c (Ln am);have bz:k<ab.length:=by have:=(Lk.1 an).1;rw[<- aq,Nn]at this;exact this
  obtain⟨y,az⟩:∃y,ab[k]? = some y:=⟨_,La bz⟩;have bD:y.f=f:=by rw[<- aq,LD,az]at an;exact Ly an
  obtain⟨bf,aF,aX,rfl,aO⟩:=bq (by omega);have aN:H'.get bf=some (.cells (Wm ab) aF aX):=by rw[ad.get _ (ai.lt aO)];exact aO
  have bo:=GA ab k y az;have bJ:=WM ab;have aZ:=(br y (Ln az)).ext ai ad;have d1:(0:Int)<=i∧(i:Int)<Q.length:=by omega
  have d2:(0:Int)<=k∧(k:Int)<ab.length:=by omega
  have d3:(i:Int).toNat=i:=by omega
  have d4:(k:Int).toNat=k:=by omega
  have d5:decide ((k:Int)<ab.length)=true:=Lp d2.2;have d7:i * 3+3<=Q.length * 3:=by omega
  have aG:IntKind.i64.wrap ((i:Int)+1)=((i+1:Nat):Int):=by rw[w64 (by unfold I64;omega)];omega
  rw[aW]at aL;obtain⟨aD,aE,rfl⟩:=aP.slc;have au:QBV (L op) c.x aa=decide (0<=Qy y.f.shapes aa):=by unfold QBV;rw[aW,d4,an,bD]
  have tk:byF (L op) (Q.take (i+1)) bs aa=(QeQ c.b bs&&decide (0<=Qy y.f.shapes aa)):=by
   have:byF (L op) (Q.take (i+1)) bs aa=(byF (L op) (Q.take i) bs aa||(QeQ c.b bs&&QBV (L op) c.x aa)):=by unfold byF;rw[Nv,am,Rz];simp
   rw[this,ar,Nt,au]
  have b6:(H.y=H'.y)=False:=by simp;have:=ah.lt aH;omega
  simp only[Qbt,Qb,simprocAttr,r2,aA,ap,d1,d3,d7,bu,b4,aL,b6,aH];obtain⟨H4,ak⟩:∃h,h=(H'.push (.C [.slice none 0 0,.Z 0,.Z 0] 91)).set H'.y (.C [.slice aD c.b.length aE,.Z k,.Z c.h] 91):=⟨_,rfl⟩;have ae:Ext H' H4:=by rw[ak];exact((Ext.refl H').push _).set (Lb _) _
  have aT:H4.Wf:=by rw[ak];exact(ah.push _).set (by rw[Qc,Lc rfl]) _
  have g4:H4.get H'.y=some (.C [.slice aD c.b.length aE,.Z k,.Z c.h] 91):=by rw[ak,Qh,Lc rfl]
  have bi:H4.get bf=some (.cells (Wm ab) aF aX):=(ae.get _ (ah.lt aN)).trans aN;simp only[<- ak];have ay:=ax.trans ae;refine(QkW _ _ c.b bs H4 (aP.go ah ae).cellsB (aM.ext ag ay).cells).w ?_;rintro _ H4 _ _ ⟨rfl,rfl⟩;simp only[Qb,simprocAttr];cases aQ:QeQ c.b bs with
  | false=>
   rw[aQ,NG]at tk;simp only[Qb,simprocAttr,ap,aG];refine⟨Q.length - (i+1),by omega,i+1,by omega,rfl,aT,ad.trans ae,?_,?_,?_,?_,?_,?_,tk⟩
   all_goals simp only[Qf,simprocAttr,r1,r2,aC,aA,aB]
  | true=>
   rw[aQ,LJ]at tk;have b3:(Wm ab)[k * 10+1]? = some y.sv:=by
    have:=congrArg (λl=>l[1]?) bo;simpa[Nl,Nk,Lf.cells] using this
   simp only[Qb,simprocAttr,g4,r1,aC,d2,d4,Nf,bi,b3];refine(QlX _ y.f.shapes aa H4 (Qys (aZ.ext ah ae).2.2.1) aZ.1).w ?_;rintro _ H4 _ _ ⟨rfl,rfl⟩;simp only[Qb,simprocAttr];cases al:decide (0<=Qy y.f.shapes aa) with
   | false=>
    rw[al]at tk;simp only[Qb,simprocAttr,ap,aG];refine⟨Q.length - (i+1),by omega,i+1,by omega,rfl,aT,ad.trans ae,?_,?_,?_,?_,?_,?_,tk⟩
    all_goals simp only[Qf,simprocAttr,r1,r2,aC,aA,aB]
   | true=>
    rw[al]at tk;simp only[Qb,simprocAttr,QcE];refine .mk ay.y ⟨?_,ay⟩;have bn:byF (L op) Q bs aa=true:=by
     unfold byF at tk ⊢;obtain⟨x,hx,au⟩:=Bh.1 tk;exact Bh.2 ⟨x,List.mem_of_mem_take hx,au⟩
    rw[bn]
 have ac:i=Q.length:=by have:=Ll ac;omega
 subst ac;rw[Nr]at ar;simp only[Qb,simprocAttr,QcE];exact .mk ax.y ⟨by rw[ar],ax⟩
def QnG {op:Int}{va bv:Value}{l:List Ar}{bs:List Int}(is:Bool)(H:Qa)(ao:T H)(ag:QQ H va l)(ap:∀n,H.y<=n->Qj n 6 (.agg #[.Z op,va])=true)(aj:l.length<=1000)(an:∀a∈l,I64 a.n)(ai:ZJ H bv bs):
  Qe Pg 21 [.agg #[bv,.Z op,va,.bool is]] H λu H'=>u=.Z (Qk8 (L op) op l bs)∧Ext H H':=by
 refine Qj2 λab=>?_;obtain⟨a0,cap,rfl⟩:=Wd ag;have ay:=ai;obtain⟨av,ax,rfl,_⟩:=ay;obtain⟨r,aa⟩:∃r,r=Qk8 (L op) op l bs:=⟨_,rfl⟩;rw[<- aa];unfold Qk8 at aa;simp only[Qbv,Wu,simprocAttr];generalize ae:Qa.push H _=H1;have g1:H1.get H.y=some (.C [.slice av bs.length ax,.Z op,.slice a0 l.length cap,.bool is] 44):=by rw[<- ae,Qc,Lc rfl];rfl
 have aq:Ext H H1:=by rw[<- ae];exact(Ext.refl H).push _
 have aA:H1.Wf:=by rw[<- ae];exact ab.push _
 clear ae;simp only[Qb,simprocAttr,g1];refine(Qju QFA _ l H1 (ag.ext ab aq) aj).w ?_;rintro _ H2 aD aB ⟨rfl,ar⟩;have g2:=(ar.get _ (aA.lt g1)).trans g1;have ac:=aq.trans ar;simp only[Qb,simprocAttr];cases ak:l.any λa=>a.k==4 with
 | false=>
  rw[Lc ak]at aa;simp only[Qb,simprocAttr,Yl];exact .mk ac.y ⟨by rw[aa],ac⟩
 | true=>
  rw[Le (by rw[ak];decide)]at aa;simp only[Qb,simprocAttr,g2];refine(QsK hT hO is 26 H2 (hT _ _ ab ao ac) (ag.ext ab ac) (λn az=>ap n (by have:=ac.y;omega)) aj an (ai.ext ab ac)).w ?_;rintro _ H3 aE aG ⟨rfl,au⟩;have g3:=(au.get _ (aB.lt g2)).trans g2;have ad:=ac.trans au;simp only[Qb,simprocAttr];cases al:byF (L op) (Qka (L op) op l).1 bs 26 with
  | true=>
   rw[Lc al]at aa;simp only[Qb,simprocAttr,Yl];exact .mk ad.y ⟨by rw[aa],ad⟩
  | false=>
   rw[Le (by rw[al];decide)]at aa;simp only[Qb,simprocAttr,g3];refine(QsK hT hO is 27 H3 (hT _ _ ab ao ad) (ag.ext ab ad) (λn az=>ap n (by have:=ad.y;omega)) aj an (ai.ext ab ad)).w ?_;rintro _ H4 aF aH ⟨rfl,aC⟩;have ah:=ad.trans aC;simp only[Qb,simprocAttr];cases am:byF (L op) (Qka (L op) op l).1 bs 27 with
   | true=>
    rw[Lc am]at aa;simp only[Qb,simprocAttr,Yl];exact .mk ah.y ⟨by rw[aa],ah⟩
   | false=>
    rw[Le (by rw[am];decide)]at aa;simp only[Qb,simprocAttr,Yl];exact .mk ah.y ⟨by rw[aa],ah⟩
def QDm (L:List Fm)(op:Int)(l:List Ar)(bs:List Int)(is:Bool)(at_:Int):List UInt8:=
 if is=false then[100,98,32]++QeC (bs.getD 0 0) else(QxC op l (Qk8 L op l bs) (IntKind.i64.wrap (at_+bs.length))).1
def QnH (ao:QrH T){op:Int}{va bv:Value}{l:List Ar}{bs:List Int}(is:Bool)(at_:Int)(H:Qa)(ai:T H)(aj:QQ H va l)(av:∀n,H.y<=n->Qj n 6 (.agg #[.Z op,va])=true)(au:l.length<=1000)(am:∀a∈l,I64 a.n)(ap:ZJ H bv bs)(ah:0<bs.length)(aG:∀z∈bs,0<=z∧z<256):
  Qe Pg 15 [.agg #[bv,.Z op,va,.bool is],.Z at_] H λu H'=>u=.string (mkS (QDm (L op) op l bs is at_))∧Ext H H':=by
 refine Qj1 λab=>?_;obtain⟨a0,cap,rfl⟩:=Wd aj;have az:=ap;obtain⟨aI,al,rfl,_,_,_,_,e,aA⟩:=az;cases e;obtain⟨b,o,e,ro,cs,rfl,aq,aC⟩:=aA ah;obtain⟨r,ac⟩:∃r,r=QDm (L op) op l bs is at_:=⟨_,rfl⟩;rw[<- ac];unfold QDm at ac;simp only[Qbq,Wu,simprocAttr];generalize ag:Qa.push H _=H1;have g1:H1.get H.y=some (.C [.slice (some ⟨b,o,none⟩) bs.length al,.Z op,.slice a0 l.length cap,.bool is] 44):=by rw[<- ag,Qc,Lc rfl];rfl
 have aa:Ext H H1:=by rw[<- ag];exact(Ext.refl H).push _
 have ak:H1.Wf:=by rw[<- ag];exact ab.push _
 clear ag;have ar:=(aa.get _ (ab.lt aq)).trans aq;simp only[Qb,simprocAttr,g1];cases is with
 | false=>
  rw[Lc rfl]at ac;have aN:0<=bs.getD 0 0∧bs.getD 0 0<256:=by
   have h:bs[0]? = some (bs.getD 0 0):=by rw[LX,La ah];rfl
   exact aG _ (Ln h)
  have aB:cs[o]? = some (.int .u8 (bs.getD 0 0)):=aC 0 ah;have d1:(0:Int)<bs.length:=by omega
  have ay:IntKind.i64.wrap (bs.getD 0 0)=bs.getD 0 0:=w64 (by unfold I64;omega);have an:I64 (bs.getD 0 0):=by unfold I64;omega
  simp only[Qb,simprocAttr,g1,ar,d1,aB,ay];have aJ:=Z9 _ an;refine(Kh ao.q _ an H1 (hT _ _ ab ai aa)).w ?_;rintro _ H2 aD aE ⟨rfl,ad⟩;have ae:=aa.trans ad;simp only[Qb,simprocAttr,Xh,QaH];refine⟨by omega,.mk ae.y ⟨by rw[ac];rfl,ae⟩⟩
 | true=>
  rw[Le (by decide)]at ac;simp only[Qb,simprocAttr];have lB:H.y<H1.y:=ak.lt g1;simp only[VV,Qb,simprocAttr,g1,lB];refine⟨av _ aa.y,?_⟩;refine(QnG hT hO true H1 (hT _ _ ab ai aa) (aj.ext ab aa) (λn aK=>av n (by have:=aa.y;omega)) au am (ap.ext ab aa)).w ?_;rintro _ H2 aD aE ⟨rfl,ad⟩;have ae:=aa.trans ad;have g2:=(ad.get _ (ak.lt g1)).trans g1;have aH:Qj H2.y 6 (.slice (some ⟨b,o,none⟩) bs.length al)=true:=by
   have:=ak.lt ar;have:=ad.y;simp[Qj];omega
  simp only[Qb,simprocAttr];refine⟨ad.eqB,?_⟩;simp only[Qb,simprocAttr,g2,aH];refine(Qvw ao op _ l (aj.ext ab ae) au am _ _ (hT _ _ ab ai ae)).w ?_;rintro _ H3 aL aM ⟨rfl,aF⟩;have ax:=ae.trans aF;simp only[Qb,simprocAttr,QaH];exact .mk ax.y ⟨by rw[ac],ax⟩
end
structure QDw (bs:List Int) (r:Dr):Prop where
 n:InB bs r.n
 i:∀a∈r.l,I64 a.n
def QBY {bs:List Int}{op p:Int}{l:List Ar}(ad:InB bs p)(ab:∀a∈l,I64 a.n)(h:(QsL op p l).e=0):QDw bs (QsL op p l):=by
 unfold QsL at h ⊢;split;·rename_i aa;rw[Lc aa]at h;cases h
 rename_i aa;exact⟨ad,λa ac=>((Qxv ab (by simpa using aa)).2.2.2 a ac).n⟩
def QFP {bs:List Int}{c:Rr}(ag:bs.length<=1000000)(ae:InB bs c.p){n:Int}(ad:I64 n)(h:(QtS bs c n).e=0):QDw bs (QtS bs c n):=by
 unfold QtS at h ⊢;split
 ·rename_i aa;rw[Lc aa]at h;split;·rename_i ab;rw[Lc ab]at h;cases h
  rename_i ab;rw[Le ab]at h;split;·rename_i ac;rw[Lc ac]at h;cases h
  rename_i ac;rw[Le ac]at h;exact QBY (InB.wrap ag ⟨by have:=ae.1;omega,by omega⟩) (Qwo _ _ _ ad) h
 rename_i aa;rw[Le aa]at h;exact QBY ae (Qwo _ _ _ ad) h
def QKB {bs:List Int}{c:Rr}(ad:bs.length<=1000000)(ae:InB bs c.p)(h:(QoT bs c).e=0):QDw bs (QoT bs c):=by
 unfold QoT at h ⊢;split
 ·rename_i ab;rw[Lc ab]at h;split;·rename_i aa;rw[Lc aa]at h;have ac:(XM bs c.p (tl1 c.x.f) true).2=0:=h;rw[ac]at aa;cases aa
  rename_i aa;rw[Le aa]at h;have ac:((XM bs c.p (tl1 c.x.f) true).2==0)=true:=by simpa using aa
  have ag:=QsM _ _ _ _ ac;have ah:=Qsu c.x.f;exact QFP ad (InB.wrap ad ⟨by have:=ae.1;omega,by omega⟩) (QyG _ _ _ _) h
 rename_i ab;rw[Le ab]at h;exact QFP ad ae (by unfold I64;omega) h
def QKC {bs:List Int}(aa:bs.length<=1000000)(c:Rr)(ae:InB bs c.p):InB bs (rdM bs c).2.p:=by
 have ab:=(QBX aa ae).2.2;unfold rdM rdO rdH;cases ad:(QbR bs c).1==0 with
 | false=>
  simp only[Ls,ad];exact ab
 | true=>
  simp only[Lq];have ac:=(QIK aa ab).2.2;cases ag:(opF bs (QbR bs c).2).1==0 with
  | false=>simp only[Ls];exact ac
  | true=>simp only[Lq];exact(QFH aa ac).2.2
def QIk {bs:List Int}(ab:bs.length<=1000000)(f:Fm)(h:(Vz bs f).e=0):QDw bs (Vz bs f):=by
 unfold Vz QsN at h ⊢;have ac:=QKC ab (rd0 ⟨f,.slice none 0 0,.slice none 0 0⟩ (.slice none 0 0)) (InB.zero bs);generalize rdM bs (rd0 ⟨f,.slice none 0 0,.slice none 0 0⟩ (.slice none 0 0))=c at *;cases aa:c.1==0 with
 | false=>
  rw[aa]at h;simp only[Ls]at h;have ad:c.1=0:=h;rw[ad]at aa;cases aa
 | true=>
  rw[aa]at h;simp only[Lq]at h ⊢;exact QKB ab ac h
def QFQ {bs:List Int}(ac:bs.length<=1000000):∀ (l:List Fm) (err:Int),err≠0->(QsP bs l err).e=0->QDw bs (QsP bs l err)∧(QsP bs l err).l.length<=5
 | [],err,h0,h=>absurd h h0
 | f::l,err,h0,h=>by
  unfold QsP at h ⊢;split;·rename_i aa;have ab:=QIk ac f (by simpa using aa);exact⟨⟨ab.n,ab.i⟩,QDv bs f⟩
  rename_i aa;rw[Le aa]at h;exact QFQ ac l _ (by split;decide;exact h0) h
structure Pc where
 at_:Nat
 bs:List Int
 op:Int
 l:List Ar
 is:Bool
def QnJ (L:List Fm)(w:List Int):Dr:=QsP w (Qbe w true 0 L) 4
def isP (r:Dr):Bool:=(r.e==0)&&decide (0<r.n)
def Y2 (L:List Fm)(b:List Int)(a:Nat):Pc:=if isP (QnJ L ((b.drop a).take 15))=true then⟨a,(b.drop a).take (QnJ L ((b.drop a).take 15)).n.toNat,(QnJ L ((b.drop a).take 15)).op,(QnJ L ((b.drop a).take 15)).l,true⟩ else⟨a,(b.drop a).take 1,0,[],false⟩
def XA (L:List Fm)(b:List Int):Nat->Nat->List Pc
 | 0,_=>[]
 | k+1,a=>if a<b.length then Y2 L b a::XA L b k (a+(Y2 L b a).bs.length) else[]
def Qwr {L:List Fm}{w:List Int}(ab:w.length<=1000000)(h:isP (QnJ L w)=true):QDw w (QnJ L w)∧(QnJ L w).l.length<=5∧0<(QnJ L w).n:=by
 unfold isP at h;rw[Lm]at h;have aa:=QFQ ab _ 4 (by decide) (eq_of_beq h.1);exact⟨aa.1,aa.2,Lg h.2⟩
def Qga {L:List Fm}{b:List Int}{a:Nat}(ad:a<b.length):0<(Y2 L b a).bs.length∧a+(Y2 L b a).bs.length<=b.length:=by
 unfold Y2;split
 ·rename_i h;have ae:((b.drop a).take 15).length<=15:=by rw[Sb];omega
  obtain⟨aa,_,ac⟩:=Qwr (by omega) h;have ab:=aa.n.2;rw[Sb,NT]at ab;simp only[Sb,NT];omega
 simp only[Sb,NT];omega
def inS (v:Value)(id:Nat):Prop:=∃a n c,v=.slice (some a) n c∧a.block=id
def PcV (o:Int)(l:Nat)(H:Qa)(p:Pc)(vs:List Value):Prop:=∃bv va,vs=[.Z (IntKind.i64.wrap (o+p.at_)),.agg #[bv,.Z p.op,va,.bool p.is]]∧ZJ H bv p.bs∧QQ H va p.l∧(∀id,inS bv id->id≠l∧id<H.y)∧∀id,inS va id->id≠l∧id<H.y
def PW (fl:Bool)(W Q:List Pc):Prop:=∃m,W=Q.take m∧(fl=true->Q.length<=m)∧(fl=false->0<m∧m<=Q.length)
def PW.all {W:List Pc}{Q:List Pc}(h:W=Q):PW true W Q:=⟨Q.length,by rw[Nr,h],λ_=>Lb _,λh=>by cases h⟩
def PW.cons {fl:Bool}{W Q:List Pc}{q:Pc}{j:Nat}(h:PW fl (W.drop j) (q::Q)):W[j]? = some q∧((fl||decide (j+1<W.length))=true->PW fl (W.drop (j+1)) Q)∧((fl||decide (j+1<W.length))=false->j+1=W.length):=by
 obtain⟨m,ab,ac,ad⟩:=h;obtain⟨m,rfl⟩:∃n,m=n+1:=⟨m - 1,by cases fl<;>simp at ac ad<;>omega⟩;rw[List.take_succ_cons]at ab;have e1:W[j]? = some q:=by
  have:=congrArg (λl=>l[0]?) ab;simpa[Nk] using this
 have e2:W.drop (j+1)=Q.take m:=by
  have:=congrArg (λl=>l.drop 1) ab;simpa[Rc] using this
 have e3:=congrArg List.length e2;rw[NT,Sb]at e3;have e4:=(Lk.1 e1).1;refine⟨e1,λh=>⟨m,e2,λaa=>by have:=ac aa;simp at this;omega,λaa=>?_⟩,λh=>?_⟩
 ·have ae:=(ad aa).2;rw[aa]at h;have ag:j+1<W.length:=by simpa using h
  rw[Lo]at ae;omega
 have ag:¬j+1<W.length:=by cases fl<;>simp at h ⊢;omega
 omega
structure QIl (fl:Bool) (l:Nat) (items:List Pc) (It:Qa->Pc->List Value->Prop) (R:Nat->Qa->Prop) (Own:Qa->Nat->Prop):Prop where
 ext:∀j H H',R j H->H.Wf->Ext H H'->R j H'∧∀id,Own H' id->Own H id
 low:∀j H id,R j H->Own H id->id<H.y
 go:∀j w H vs,items[j]? = some w->R j H->H.Wf->It H w vs->YQ Pg l vs H λu H'=>u=.bool (fl||decide (j+1<items.length))∧R (j+1) H'∧CK Own H H'
def QIl.ck {fl:Bool}{l:Nat}{ae:List Pc}{It:Qa->Pc->List Value->Prop}{R:Nat->Qa->Prop}{Own:Qa->Nat->Prop}(h:QIl fl l ae It R Own){j:Nat}{H H':Qa}(ab:R j H)(ac:H.Wf)(hx:Ext H H')(ad:H'.Wf):CK Own H H':=
 ⟨hx.y,ad,λid aa _=>hx.get id aa,λid aa=>.inl ((h.ext j H H' ab ac hx).2 id aa)⟩
def QBb {A:Env}{H:Qa}{k:Value->Qa->Prop}{x y:Operand}{aa:Array TypeId}{ik:IntKind}{a b:Int}(hx:ev A x=.int ik a)(ab:ev A y=.int ik b):pr Pg (.gen (.call ⟨.builtin .min,#[x,y],aa⟩)) false A H k=k (.int ik (if b<a then b else a)) H:=by
 have e:rop Pg (.gen (.call ⟨.builtin .min,#[x,y],aa⟩)) A H=some (.int ik (if b<a then b else a),H):=by simp[rop,aop,QaP,hx,ab]
 refine(Q4 _).trans ?_;rw[e,Qs]
def QIL {H:Qa}{v:Value}{bs:List Int}(h:ZJ H v bs)(aa:0<bs.length){id:Nat}(hi:inS v id):∃cs e ro,H.get id=some (.cells cs e ro):=by
 obtain⟨a,cap,rfl,_,_,a1,c1,e1,ab⟩:=h;cases e1;obtain⟨b,o,e,ro,cs,rfl,ac,_⟩:=ab aa;obtain⟨ad,ae,c',e2,rfl⟩:=hi;cases e2;exact⟨cs,e,ro,ac⟩
def QKD {b:List Int}{a n:Nat}(aa:n=if a+15<b.length then 15 else b.length - a):(b.drop a).take n=(b.drop a).take 15:=by
 subst aa;split;·rfl
 rw[LF (by rw[NT];exact Lb _),LF (by rw[NT];omega)]
def QoV (f:Fm):∀ (b:List Int) (aa:Bool) (d:Nat) (L:List Fm),f∈Qbe b aa d L->f∈L
 | [],_,_,_,h=>h
 | c::cs,aa,d,L,h=>by
  unfold Qbe at h;cases ab:QyM d L with
  | false=>rw[ab,Ls]at h;exact h
  | true=>
   rw[ab,Lq]at h;cases ac:aa&&QyN c with
   | true=>rw[ac,Lq]at h;exact QoV f cs _ _ _ h
   | false=>rw[ac,Ls]at h;exact(Bo.1 (QoV f cs _ _ _ h)).1
def ZJ.bsAt {H:Qa}{v:Value}{bs:List Int}(h:ZJ H v bs):Qwq H v bs:=by
 obtain⟨a,cap,rfl,_,_,a1,c1,e,ab⟩:=h;cases e;refine⟨_,_,rfl,λaa=>?_⟩;obtain⟨b,o,e,ro,cs,ac,ad,ae⟩:=ab aa;exact⟨b,o,cs,e,ro,ac,ad,ae⟩
def QuL {fl:Bool}{l aa a:Nat}{R:Nat->Qa->Prop}{Own:Qa->Nat->Prop}{o:Int}{W:List Pc}(av:QIl fl l W (PcV o l) R Own){j:Nat}{p:Pc}(ax:W[j]? = some p)(az:p.at_=a)(aG:p.bs.length<=65536)(aD:a<=65536){ks:Kp}{K:Env->Qa->Prop}{A:Env}{H:Qa}{bv va:Value}{bB oB an:Nat}(ah:H.Wf)(ar:R j H)(aq:H.get oB=some (.C [.Z o] an))(ab:H.get aa=some (.C [bv,.Z p.op,va,.bool p.is] 44))(aC:¬Own H aa)
  (ae:ZJ H bv p.bs) (ag:QQ H va p.l) (au:∀id,inS bv id->id≠l∧id<H.y) (aB:∀id,inS va id->id≠l∧id<H.y) (r0:A 0=.func (.yield l) #[] #[]) (r1:A 1=.P bB) (r2:A 2=.P oB) (r4:A 4=.Z a) (ai:A 5=.P aa)
  (aA:∀A' H',(fl||decide (j+1<W.length))=false->R (j+1) H'->CK Own H H'->ks.ret A' H')
  (ay:∀A' H',(fl||decide (j+1<W.length))=true->R (j+1) H'->CK Own H H'->A' 0=.func (.yield l) #[] #[]->A' 1=.P bB->A' 2=.P oB->A' 4=.Z ((a+p.bs.length:Nat):Int)->K A' H'):
  Qk Pg YH ks K A H:=by
 obtain⟨al,am,rfl,aE⟩:=id ae;obtain⟨aj,ak,rfl,_⟩:=id ag;have ao:IntKind.i64.wrap ((a:Int)+(p.bs.length:Int))=((a+p.bs.length:Nat):Int):=by rw[w64 (by unfold I64;omega)];omega
 simp only[YH,Qb,simprocAttr,r0,r2,r4,ai,aq,ab,Zz];refine QgM (av.go j p H _ ax ar ah ⟨.slice al p.bs.length am,.slice aj p.l.length ak,by rw[az],ae,ag,au,aB⟩) ?_;rintro _ H2 aF aH ⟨rfl,ad,ac⟩;have ap:=(ac.keep _ (ah.lt ab) aC).trans ab;cases z:(fl||decide (j+1<W.length)) with
 | false=>
  simp only[Qb,simprocAttr];exact aA _ _ z ad ac
 | true=>
  simp only[Qb,simprocAttr,r4,ai,ap,ao];refine ay _ _ z ad ac ?_ ?_ ?_ ?_
  all_goals simp only[Qf,simprocAttr,r0,r1,r2]
section
variable {T:Qa->Prop} {L:List Fm} (hT:∀H H',H.Wf->T H->Ext H H'->T H') (hR0:∀H,T H->Qe Pg 48 [] H λu H'=>QaY H H' u L) (hty:QhN 64) (hsl:∀f∈L,f.shapes.length=f.slots.length)
include hT hR0 hty hsl
def Qap {fl:Bool}{l bB oB bg bh:Nat}{R:Nat->Qa->Prop}{Own:Qa->Nat->Prop}{bv:Value}{b:List Int}{o:Int}{W:List Pc}{H0:Qa}(ap:H0.Wf)(bR:T H0)(aP:ZJ H0 bv b)(c4:b.length<=65536)(H:Qa)(aK:Ext H0 H)
  (gB:H.get bB=some (.C [bv] bg)) (bj:H.get oB=some (.C [.Z o] bh)) (nB:¬Own H bB) (nO:¬Own H oB)
  (bZ:∀j H id,R j H->Own H id->H0.y<=id) (c6:H0.y<=l) (c7:l<H.y) (bT:PW fl W (XA L b b.length 0)) (ai:QIl fl l W (PcV o l) R Own) (bq:R 0 H):
  Qe Pg 23 [.func (.yield l) #[] #[],.P bB,.P oB] H λu H'=>R W.length H'∧CK Own H H':=by
 refine QmF λaZ=>?_;simp only[QdT,Wu,simprocAttr];refine Qp (λm A' H'=>∃a k j:Nat,a<=b.length∧m=b.length - a∧b.length<=a+k∧j<=W.length∧PW fl (W.drop j) (XA L b k a)∧R j H'∧CK Own H H'∧Ext H0 H'∧A' 0=.func (.yield l) #[] #[]∧A' 1=.P bB∧A' 2=.P oB∧A' 4=.Z a) b.length ?_ ?_
 ·refine⟨0,b.length,0,L7 _,by omega,by omega,L7 _,bT,bq,⟨Lb _,aZ,λ_ _ _=>rfl,λ_ h=>.inl h⟩,aK,?_,?_,?_,?_⟩
  all_goals simp only[Qf,simprocAttr]
  all_goals rfl
 rintro m A' H1 ⟨a,k,j,cx,rfl,b5,c5,aI,am,ae,aq,r0,r1,r2,r4⟩;have ac:=ae.w;have lB:=aZ.lt gB;have cl:=aZ.lt bj;have aD:H1.get bB=some (.C [bv] bg):=(ae.keep _ lB nB).trans gB;have aE:H1.get oB=some (.C [.Z o] bh):=(ae.keep _ cl nO).trans bj;have bu:=aP.ext ap aq;have bV:=bu;obtain⟨ct,cv,rfl,cy,cz,_⟩:=bV;simp only[Qbs,Qb,simprocAttr,r1,r4,aD];refine Qg (λab=>?_) (λab=>?_)
 ·have ab:a<b.length:=by have:=Lg ab;omega
  have ax:IntKind.i64.wrap ((a:Int)+1)=((a+1:Nat):Int):=by rw[w64 (by unfold I64;omega)];omega
  obtain⟨cr,bI,aQ⟩:=aP.sub (p:=a) (n:=1) (by omega);simp only[Qbr,Qb,simprocAttr,r1,r4,aD,ax];refine⟨cr,bI,?_⟩;obtain⟨bA,bC,rfl,_⟩:=id aQ;have ci:∃n,n=(if a+15<b.length then 15 else b.length - a):=⟨_,rfl⟩;obtain⟨n,aV⟩:=ci;have ca:a+n<=b.length∧n<=15:=by subst aV;split<;>omega
  have bF:IntKind.i64.wrap ((a:Int)+15)=(a:Int)+15:=w64 (by unfold I64;omega);have bH:(if(a:Int)+15<(b.length:Int) then(a:Int)+15 else(b.length:Int))=((a+n:Nat):Int):=by subst aV;split<;>split<;>omega
  obtain⟨H2,aF⟩:∃h,h=(H1.push (.C [.slice none 0 0,.Z 0,.slice none 0 0,.bool false] 44)).set H1.y (.C [.slice bA ((b.drop a).take 1).length bC,.Z 0,.slice none 0 0,.bool false] 44):=⟨_,rfl⟩;have an:Ext H1 H2:=by rw[aF];exact((Ext.refl H1).push _).set (Lb _) _
  have aA:H2.Wf:=by rw[aF];exact(ac.push _).set (by rw[Qc,Lc rfl]) _
  have g2:H2.get H1.y=some (.C [.slice bA ((b.drop a).take 1).length bC,.Z 0,.slice none 0 0,.bool false] 44):=by rw[aF,Qh,Lc rfl]
  have aM:=(an.get _ (ac.lt aD)).trans aD;have bm:=(an.get _ (ac.lt aE)).trans aE;simp only[Qb,simprocAttr];simp only[<- aF,Qb,simprocAttr,r1,r4,aM,bF];rw[QBb (ik:=.i64) (a:=b.length) (b:=(a:Int)+15) (by simp only[Qf,simprocAttr]) (by simp only[Qf,simprocAttr])];rw[bH];obtain⟨bd,bJ,bw⟩:=bu.sub (p:=a) (n:=n) ca.1;rw[QKD aV]at bw;simp only[Qb,simprocAttr];refine⟨bd,bJ,?_⟩;have bS:T H2:=hT _ _ ap bR (aq.trans an);have c8:((b.drop a).take 15).length<=15:=by rw[Sb];omega
  have q:Qe Pg 8 [bd] H2 (Qk9 H2 (QnJ L ((b.drop a).take 15))):=Qqw hR0 hty (λf bX=>hsl f (QoV f _ _ _ _ bX)) bd hT H2 bS (bw.ext ac an).bsAt (by omega);have ce:=@Qwr L ((b.drop a).take 15) (by omega);have aJ:Y2 L b a=if isP (QnJ L ((b.drop a).take 15))=true then⟨a,(b.drop a).take (QnJ L ((b.drop a).take 15)).n.toNat,(QnJ L ((b.drop a).take 15)).op,(QnJ L ((b.drop a).take 15)).l,true⟩ else⟨a,(b.drop a).take 1,0,[],false⟩:=rfl
  have aa:=@Qga L b a ab;generalize QnJ L ((b.drop a).take 15)=r at *;refine q.w ?_;rintro _ H3 cG aB ⟨aC,cO,rfl,b6,b2⟩;obtain⟨aj,ak,rfl,_⟩:=id b6;have g3:=(aC.get _ (aA.lt g2)).trans g2;have bi:=(aC.get _ (aA.lt aM)).trans aM;have bn:=(aC.get _ (aA.lt bm)).trans bm;have cj:=an.trans aC;obtain⟨H4,aG⟩:∃h,h=(H3.push (.C [.Z 0,.slice none 0 0] 33)).set H3.y (.C [.Z r.op,.slice aj r.l.length ak] 33):=⟨_,rfl⟩;have av:Ext H3 H4:=by rw[aG];exact((Ext.refl H3).push _).set (Lb _) _
  have ba:H4.Wf:=by rw[aG];exact(aB.push _).set (by rw[Qc,Lc rfl]) _
  have g4:H4.get H3.y=some (.C [.Z r.op,.slice aj r.l.length ak] 33):=by rw[aG,Qh,Lc rfl]
  have aN:=(av.get _ (aB.lt g3)).trans g3;have bL:=(av.get _ (aB.lt bi)).trans bi;have bM:=(av.get _ (aB.lt bn)).trans bn;have ar:=cj.trans av;simp only[Qb,simprocAttr];simp only[<- aG];have bU:W[j]? = some (Y2 L b a)∧∃ag,k=ag+1∧((fl||decide (j+1<W.length))=true->PW fl (W.drop (j+1)) (XA L b ag (a+(Y2 L b a).bs.length)))∧((fl||decide (j+1<W.length))=false->j+1=W.length):=by
   cases k with
   | zero=>omega
   | succ ag=>
    have ah:XA L b (ag+1) a=Y2 L b a::XA L b ag (a+(Y2 L b a).bs.length):=by show(if a<b.length then _ else _)=_;rw[Lc ab]
    rw[ah]at aI;exact⟨aI.cons.1,ag,rfl,aI.cons.2⟩
  obtain⟨az,ag,rfl,aH,br⟩:=bU;have b4:=(Lk.1 az).1;have cI:=aa.1;have b9:∀H',CK Own H H'->Ext H0 H':=λH' bx=>⟨by have:=aK.y;have:=bx.y;omega,λid bY=>by
   rw[bx.keep id (by have:=aK.y;omega) (λaW=>by have:=bZ 0 H id bq aW;omega)];exact aK.get id bY⟩
  have bp:∀H5,Ext H1 H5->¬Own H5 H1.y:=λH5 hx aW=>by
   have:=ai.low j H1 _ am ((ai.ext j H1 H5 am ac hx).2 _ aW);omega
  have cJ:∀H5,Ext H3 H5->∀id,inS (.slice aj r.l.length ak) id->id≠l∧id<H5.y:=λH5 hx id ⟨a',n',c',e,ax⟩=>by
   cases e;subst ax;have ah:=b2 _ _ _ rfl;have aO:=hx.y;have bo:=an.y;have cw:=ae.y;omega
  have cE:H0.y<=H1.y:=aq.y;have bz:isP r=false->∀ (A5:Env),A5 0=.func (.yield l) #[] #[]->A5 1=.P bB->A5 2=.P oB->A5 4=.Z a->A5 5=.P H1.y->∀ (ks:Kp) (K:Env->Qa->Prop),(∀A' H',R W.length H'->CK Own H H'->ks.ret A' H')->(∀A' H',(∃aL,aL<b.length - a∧∃a k j:Nat,a<=b.length∧aL=b.length - a∧b.length<=a+k∧j<=W.length∧PW fl (W.drop j) (XA L b k a)∧R j H'∧CK Own H H'∧Ext H0 H'∧A' 0=.func (.yield l) #[] #[]∧A' 1=.P bB∧A' 2=.P oB∧A' 4=.Z a)->K A' H')->Qk Pg YH ks K A5 H4:=by
   intro cc A5 cm cn co cp cq ks K cf b5;rw[cc,Le (by decide)]at aJ;rw[aJ]at az aH aa;have aS:=ae.trans (ai.ck am ac ar ba);have cC:((b.drop a).take 1).length<=1:=by rw[Sb];omega
   refine QuL (a:=a) ai az rfl (by show((b.drop a).take 1).length<=65536;omega) (by omega) ba (ai.ext j H1 H4 am ac ar).1 bM aN (bp H4 ar) (aQ.ext ap (aq.trans ar)) ⟨none,0,rfl,λh=>absurd h (NX 0)⟩ (λid hi=>?_) (λid ⟨a',n',c',e,_⟩=>by cases e) cm cn co cp cq (λA' H' z al ad=>cf A' H' (br z▸al) (aS.trans ad)) ?_;·obtain⟨cs,e,ro,ay⟩:=QIL aQ aa.1 hi;have ah:=ap.lt ay;have:=ar.y;omega
   intro A' H' z al ad p0 p1 p2 bc;exact b5 A' H' ⟨b.length - (a+((b.drop a).take 1).length),by have:=aa.1;have:=aa.2;simp only at *;omega,_,ag,j+1,aa.2,rfl,by have:=aa.1;simp only at *;omega,b4,aH z,al,aS.trans ad,b9 _ (aS.trans ad),p0,p1,p2,bc⟩
  have aY:∀ (A':Env) H',R W.length H'->CK Own H H'->Rt Pg Tryz.f23 H (λu H'=>R W.length H'∧CK Own H H') A' H':=λA' H' bQ ab=>by
   simp only[QcD];exact .mk ab.y ⟨bQ,ab⟩
  cases aU:r.e==0 with
  | false=>
   simp only[Qb,simprocAttr];refine bz (by unfold isP;rw[aU];rfl) _ ?_ ?_ ?_ ?_ ?_ _ _ aY (λA' H' h=>h)
   all_goals simp only[Qf,simprocAttr,r0,r1,r2,r4]
  | true=>
   simp only[Qb,simprocAttr];refine Qg (λaX=>?_) (λaX=>?_)
   ·have b3:isP r=true:=by unfold isP;rw[aU,aX];rfl
    obtain⟨bW,c9,cD⟩:=ce b3;rw[b3,Lc rfl]at aJ;rw[aJ]at az aH aa;have cd:=bW.n.2;rw[Sb,NT]at cd;have cb:a+r.n.toNat<=b.length:=by omega
    have bG:IntKind.i64.wrap ((a:Int)+r.n)=((a+r.n.toNat:Nat):Int):=by rw[w64 (by unfold I64;omega)];omega
    obtain⟨cP,bK,aR⟩:=aP.sub (p:=a) (n:=r.n.toNat) cb;obtain⟨bD,bE,rfl,_⟩:=id aR;simp only[Qb,simprocAttr,r1,r4,bL,bG];refine⟨_,bK,?_⟩;have cK:(H1.y=H3.y)=False:=by simp;have:=an.y;have:=aC.y;have:=aA.lt g2;omega
    simp only[Qb,simprocAttr,g4,aN];obtain⟨H5,ao⟩:∃h,h=H4.set H1.y (.C [.slice bD ((b.drop a).take r.n.toNat).length bE,.Z r.op,.slice aj r.l.length ak,.bool true] 44):=⟨_,rfl⟩;have au:Ext H1 H5:=by rw[ao];exact ar.set (Lb _) _
    have b8:H5.Wf:=by rw[ao];exact ba.set aN _
    have bO:H5.get H1.y=some (.C [.slice bD ((b.drop a).take r.n.toNat).length bE,.Z r.op,.slice aj r.l.length ak,.bool true] 44):=by rw[ao,Qh,Lc rfl]
    have bN:=(au.get _ (ac.lt aE)).trans aE;have cH:H5.y=H4.y:=by rw[ao];rfl
    have b7:∀id,inS (.slice aj r.l.length ak) id->H1.y<id∧id<H3.y:=λid ⟨a',n',c',e,ax⟩=>by
     cases e;subst ax;have ah:=b2 _ _ _ rfl;have aO:=aA.lt g2;omega
    have ch:QQ H5 (.slice aj r.l.length ak) r.l:=by
     obtain⟨a0,c0,e,cg⟩:=b6.ext aB av;cases e;refine⟨_,_,rfl,λbP=>?_⟩;obtain⟨b1,e1,ro,rfl,ay⟩:=cg bP;have:=(b7 b1 ⟨_,_,_,rfl,rfl⟩).1;exact⟨b1,e1,ro,rfl,by rw[ao,Qh,Le (by omega)];exact ay⟩
    have aT:=ae.trans (ai.ck am ac au b8);simp only[<- ao];refine QuL (a:=a) (bB:=bB) ai az rfl (by show((b.drop a).take r.n.toNat).length<=65536;rw[Sb,NT];omega) (by omega) b8 (ai.ext j H1 H5 am ac au).1 bN bO (bp H5 au) (aR.ext ap (aq.trans au)) ch (λid hi=>?_) (λid hi=>?_) ?_ ?_ ?_ ?_ ?_ (λA' H' z al ad=>aY A' H' (br z▸al) (aT.trans ad)) ?_;·obtain⟨cs,e,ro,ay⟩:=QIL aR aa.1 hi;have ah:=ap.lt ay;have:=au.y;omega
    ·have ah:=b7 id hi;have:=av.y;have:=aq.y;have:=ae.y;refine⟨?_,by omega⟩;omega
    all_goals try simp only[Qf,simprocAttr,r0,r1,r2,r4]
    intro A' H' z al ad p0 p1 p2 bc;exact⟨b.length - (a+((b.drop a).take r.n.toNat).length),by have:=aa.1;have:=aa.2;simp only at *;omega,_,ag,j+1,aa.2,rfl,by have:=aa.1;simp only at *;omega,b4,aH z,al,aT.trans ad,b9 _ (aT.trans ad),p0,p1,p2,bc⟩
   simp only[Qb,simprocAttr];refine bz (by unfold isP;rw[aU,aX];rfl) _ ?_ ?_ ?_ ?_ ?_ _ _ aY (λA' H' h=>h)
   all_goals simp only[Qf,simprocAttr,r0,r1,r2,r4]
 have ab:¬a<b.length:=by have:=Ll ab;omega
 have ah:W.drop j=[]:=by
  obtain⟨aL,bo,_⟩:=aI;rw[bo];cases k with
  | zero=>exact List.take_nil
  | succ k=>show(if a<b.length then _ else _:List Pc).take aL=_;rw[Le ab];exact List.take_nil
 have aO:j=W.length:=by have:=List.drop_eq_nil_iff.1 ah;omega
 subst aO;simp only[Qb,simprocAttr,QcD];exact .mk ae.y ⟨am,ae⟩
end
structure Sv where
 at_:Int
 bs:List Int
 tx:List UInt8
 is:Bool
def svC (ss:List Value)(ws:List Sv):List Value:=(ss.zip ws).flatMap λp=>[.Z p.2.at_,p.1,.string (mkS p.2.tx),.bool p.2.is]
def QBZ:∀ (ss:List Value) (ws:List Sv),ss.length=ws.length->(svC ss ws).length=ws.length * 4
 | [],[],_=>rfl
 | s::ss,w::ws,h=>by
  have:=QBZ ss ws (by simpa using h);unfold svC at *;simp only[BF,Ba,Lh,Lo,L9,this];omega
def QFR (ss:List Value)(ws:List Sv)(h:ss.length=ws.length)(s:Value)(w:Sv):svC (ss++[s]) (ws++[w])=svC ss ws++[.Z w.at_,s,.string (mkS w.tx),.bool w.is]:=by
 unfold svC;rw[List.zip_append h,Bm];rfl
structure Qb7 (H0 H:Qa) (v:Value) (ws:List Sv):Prop where
 it:∃ss:List Value,ss.length=ws.length∧Gx 4 29 H0 H v ws.length (svC ss ws)∧∀ (j:Nat) s w,ss[j]? = some s->ws[j]? = some w->Gx 1 5 H0 H s w.bs.length (bys w.bs)
section
variable {H0 H H' H1:Qa} {v:Value} {ws:List Sv}
def Qb7.nil (H0 H:Qa):Qb7 H0 H (.slice none 0 0) []:=⟨[],rfl,.inl ⟨rfl,rfl,rfl⟩,λj s w h=>by simp at h⟩
def Qb7.go (h:Qb7 H0 H v ws)(aa:H.Wf)(hx:Ext H H'):Qb7 H0 H' v ws:=by
 obtain⟨ss,ab,ac,ad⟩:=h.it;exact⟨ss,ab,ac.go aa hx,λj s w ae ag=>(ad j s w ae ag).go aa hx⟩
def Qb7.slc (h:Qb7 H0 H v ws):∃a c,v=.slice a ws.length c:=by
 obtain⟨ss,ab,aa,ac⟩:=h.it;exact aa.slc
def Qb7.down (h:Qb7 H1 H v ws)(hx:H0.y<=H1.y):Qb7 H0 H v ws:=by
 obtain⟨ss,aa,ab,ac⟩:=h.it;exact⟨ss,aa,ab.down hx,λj s w ad ae=>(ac j s w ad ae).down hx⟩
def Qb7.keep (h:Qb7 H0 H v ws)(ae:∀id,H0.y<=id->(inB v id∨∃cs,H.get id=some (.C cs 5))->H'.get id=H.get id):Qb7 H0 H' v ws:=by
 obtain⟨ss,ag,aa,ah⟩:=h.it;refine⟨ss,ag,?_,λj s w ai aj=>?_⟩
 ·rcases aa with aa | ⟨b,c,rfl,ab,ac,ad⟩;·exact .inl aa
  exact .inr ⟨b,c,rfl,ab,by rw[ae b ab (.inl ⟨_,_,_,rfl⟩)];exact ac,ad⟩
 rcases ah j s w ai aj with aa | ⟨b,c,rfl,ab,ac,ad⟩;·exact .inl aa
 exact .inr ⟨b,c,rfl,ab,by rw[ae b ab (.inr ⟨_,ac⟩)];exact ac,ad⟩
end
def QKE {bytes:Nat}{H0 H:Qa}{v s:Value}{w:Sv}{ws:List Sv}{k:Value->Qa->Prop}{x:Value}(ar:Qb7 H0 H v ws)(hx:Ext H0 H)(al:H.Wf)(ak:Gx 1 5 H0 H s w.bs.length (bys w.bs))(az:YX 4 x H=some (1,[.Z w.at_,s,.string (mkS w.tx),.bool w.is]))(ap:(ws.length+1) * bytes<=140737488355328)(au:ws.length+1<=9223372036854775807)
  (h:∀ae H',Qb7 H0 H' ae (ws++[w])->GK v ae H0 H H'->k ae H'):Qdv 29 4 bytes v x H k:=by
 obtain⟨ss,ah,ag,ao⟩:=ar.it;have ax:([.Z w.at_,s,.string (mkS w.tx),.bool w.is]:List Value).all (·.oneCell')=true:=by
  obtain⟨a,c,rfl⟩:=ak.slc;rfl
 refine Qdk ag hx al az ax rfl ap au ?_;intro ae H' aq aj;refine h ae H' ⟨ss++[s],by simp[ah],?_,λj aA w' aa ac=>?_⟩ aj;·rw[QFR _ _ ah,Lh];exact aq
 have av:∀id c',H.get id=some (.C c' 5)->¬inB v id:=λid c' ai hi=>by
  obtain⟨o,aB,c,rfl⟩:=hi;rcases ag with⟨h,_,_⟩ | ⟨b,c,h,am,ad,an⟩;·cases h
  cases h;rw[ad]at ai;cases ai
 have key:∀ {s:Value} {bs:List Int},Gx 1 5 H0 H s bs.length (bys bs)->Gx 1 5 H0 H' s bs.length (bys bs):=λay=>by
  rcases ay with ag | ⟨b,c,rfl,am,ad,an⟩;·exact .inl ag
  exact .inr ⟨b,c,rfl,am,by rw[aj.keep b (al.lt ad) (av b _ ad)];exact ad,an⟩
 rcases Dj j ss.length with ab | ab | ab;·rw[LY ab]at aa;rw[LY (by omega)]at ac;exact key (ao j aA w' aa ac)
 ·rw[LR (by omega)]at aa ac;rw[ab,BJ]at aa;rw[ab,ah,BJ]at ac;cases aa;cases ac;exact key ak
 have:=(Lk.1 aa).1;simp at this;omega
def Qdt {bv:Value}{b:List Int}(o:Int)(H:Qa)(aa:ZJ H bv b):Qe Pg 13 [bv,.Z o] H λu H'=>u=.func (.func 23) #[] #[.P H.y,.P (H.y+1)]∧∃e1 e2,H'=(H.push (.C [bv] e1)).push (.C [.Z o] e2):=by
 refine Qqb λab=>?_;obtain⟨a,c,rfl,_⟩:=aa;simp only[Qhg,Qb,simprocAttr,Qom];exact .mk (by rw[Qd,Qd];omega) ⟨rfl,_,_,rfl⟩
def svP (L:Int->List Fm)(o:Int)(p:Pc):Sv:=⟨IntKind.i64.wrap (o+p.at_),p.bs,QDm (L p.op) p.op p.l p.bs p.is (IntKind.i64.wrap (o+p.at_)),p.is⟩
def swR (Hb:Qa)(cB lB:Nat)(eC:TypeId)(bl:Blk)(W:List Sv)(j:Nat)(H':Qa):Prop:=
 H'.get lB=some bl∧Hb.y<=H'.y∧(∀id,id<Hb.y->id≠cB->id≠lB->H'.get id=Hb.get id)∧∃v,H'.get cB=some (.C [v] eC)∧Qb7 Hb H' v (W.take j)∧∀id,inB v id->id<H'.y∧Hb.y<=id
def swO (cB lB:Nat)(eC:TypeId)(H:Qa)(id:Nat):Prop:=id=cB∨id=lB∨∃v,H.get cB=some (.C [v] eC)∧inB v id
def QIm {Hb:Qa}{cB lB:Nat}(ak:cB<Hb.y)(al:lB<Hb.y){eC:TypeId}{bl:Blk}{W:List Sv}{j:Nat}{H1 H2:Qa}(h:swR Hb cB lB eC bl W j H1)(ah:H1.Wf)(hx:Ext H1 H2):swR Hb cB lB eC bl W j H2∧∀id,swO cB lB eC H2 id->swO cB lB eC H1 id:=by
 obtain⟨ab,aj,ac,v,ad,ae,ag⟩:=h;have am:=hx.y;have aa:=hx.get cB (by omega);refine⟨⟨by rw[hx.get lB (by omega)];exact ab,by omega,λid a b c=>by rw[hx.get id (by omega)];exact ac id a b c,v,by rw[aa];exact ad,ae.go ah hx,λid hi=>?_⟩,λid hi=>?_⟩;·have:=ag id hi;exact⟨by omega,this.2⟩
 rcases hi with h | h | ⟨ai,h,hi⟩;·exact .inl h
 ·exact .inr (.inl h)
 exact .inr (.inr ⟨ai,by rw[<- aa];exact h,hi⟩)
def QB0 {Hb:Qa}{cB lB:Nat}(ah:cB<Hb.y)(ai:lB<Hb.y){eC:TypeId}{bl:Blk}{W:List Sv}{j:Nat}{H1:Qa}(h:swR Hb cB lB eC bl W j H1){id:Nat}(hi:swO cB lB eC H1 id):id<H1.y∧(id=cB∨id=lB∨Hb.y<=id):=by
 obtain⟨ac,ad,ae,v,aa,ag,ab⟩:=h;rcases hi with rfl | rfl | ⟨aj,h,hi⟩;·omega
 ·omega
 rw[aa]at h;cases h;have:=ab id hi;omega
def QnK (L:List Fm)(b:List Int):∀ (k a:Nat),a<=b.length->(XA L b k a).length<=b.length - a
 | 0,a,h=>L7 _
 | k+1,a,h=>by
  show(if a<b.length then _ else _:List Pc).length<=_;split;·rename_i aa;have ab:=@Qga L b a aa;have ac:=QnK L b k (a+(Y2 L b a).bs.length) ab.2;rw[Lo];omega
  exact L7 _
def Qws {H H':Qa}{v:Value}{bs:List Int}(h:ZJ H v bs)(ah:∀id,inS v id->H'.get id=H.get id):ZJ H' v bs:=by
 obtain⟨a,cap,rfl,ab,ac,a1,c1,e,ad⟩:=h;cases e;refine⟨_,_,rfl,ab,ac,_,_,rfl,λaa=>?_⟩;obtain⟨b,o,e,ro,cs,rfl,ag,ae⟩:=ad aa;exact⟨b,o,e,ro,cs,rfl,by rw[ah b ⟨_,_,_,rfl,rfl⟩];exact ag,ae⟩
def QsQ {H H':Qa}{v:Value}{l:List Ar}(h:QQ H v l)(ad:∀id,inS v id->H'.get id=H.get id):QQ H' v l:=by
 obtain⟨a,cap,rfl,ab⟩:=h;refine⟨_,_,rfl,λaa=>?_⟩;obtain⟨b,e,ro,rfl,ac⟩:=ab aa;exact⟨b,e,ro,rfl,by rw[ad b ⟨_,_,_,rfl,rfl⟩];exact ac⟩
def QuM (b:ByteArray):(Value.string b).cells.toList=[.string b]:=Nu rfl rfl
def QoW {n k:Nat}{a:Option Addr}{m c:Nat}(h:∀id,inS (.slice a m c) id->id<n):Qj n (k+1) (.slice a m c)=true:=by
 cases a with
 | none=>rfl
 | some a=>
  show Nat.blt a.block n=true;simpa using h a.block ⟨a,m,c,rfl,rfl⟩
def QFS {n:Nat}{a b:Value}{op:Int}{is:Bool}(ac:Qj n 5 a=true)(ad:Qj n 5 b=true):Qj n 6 (.agg #[a,.Z op,b,.bool is])=true:=by
 show(#[a,.Z op,b,.bool is]:Array Value).all (Qj n 5)=true;have aa:Qj n 5 (.Z op)=true:=rfl;have ab:Qj n 5 (.bool is)=true:=rfl;simp[ac,ad,aa,ab]
def QjA {n:Nat}{b:Value}{op:Int}(ab:Qj n 5 b=true):Qj n 6 (.agg #[.Z op,b])=true:=by
 show(#[.Z op,b]:Array Value).all (Qj n 5)=true;have aa:Qj n 5 (.Z op)=true:=rfl;simp[ab,aa]
def QKF {size:Nat}{e:TypeId}{H0 H:Qa}{v:Value}{n:Nat}{cs:List Value}(h:Gx size e H0 H v n cs){id:Nat}(hi:inS v id):inB v id:=by
 obtain⟨a,m,c,rfl,rfl⟩:=hi;rcases h with⟨h,_⟩ | ⟨b,c',h,_⟩;·cases h
 cases h;exact⟨_,_,_,rfl⟩
def QqO (L:List Fm)(b:List Int):∀ (k a:Nat) (p:Pc),p∈XA L b k a->0<p.bs.length∧p.bs.length<=b.length∧p.l.length<=5∧(∀x∈p.l,I64 x.n)∧∀z∈p.bs,z∈b
 | 0,a,p,h=>by cases h
 | k+1,a,p,h=>by
  have h:p∈(if a<b.length then Y2 L b a::XA L b k (a+(Y2 L b a).bs.length) else[]):=h;split at h
  ·rename_i ab;rcases LK.1 h with rfl | h
   ·have ac:=@Qga L b a ab;refine⟨ac.1,by omega,?_⟩;unfold Y2;split
    ·rename_i ad;have ah:((b.drop a).take 15).length<=15:=by rw[Sb];omega
     obtain⟨ae,ag,_⟩:=Qwr (by omega) ad;exact⟨ag,ae.i,λz aa=>List.mem_of_mem_drop (List.mem_of_mem_take aa)⟩
    exact⟨L7 _,λx hx=>(by cases hx),λz aa=>List.mem_of_mem_drop (List.mem_of_mem_take aa)⟩
   exact QqO L b k _ p h
  cases h
section
variable {T:Qa->Prop} {L:List Fm} {lof:Int->List Fm} (hP:QrH T) (hT:∀H H',H.Wf->T H->Ext H H'->T H') (hO:∀op H,T H->Qe Pg 36 [.Z op] H λu H'=>QaY H H' u (lof op)) (hR0:∀H,T H->Qe Pg 48 [] H λu H'=>QaY H H' u L) (hty:QhN 64) (hsl:∀f∈L,f.shapes.length=f.slots.length)
include hP hT hO hR0 hty hsl
def QeU {bv:Value}{b:List Int}{o:Int}(H:Qa)(aY:T H)(az:ZJ H bv b)(bM:b.length<=65536)(cc:∀z∈b,0<=z∧z<256)(bN:Qsk b.length o=0):
  Qe Pg 6 [bv,.Z o] H λu H'=>∃v,u=.tuple #[v,.Z 0]∧Qb7 H H' v ((XA L b b.length 0).map (svP lof o))∧Ext H H':=by
 refine Qr0 λaq=>?_;have bK:=az;obtain⟨b4,b5,rfl,_⟩:=bK;simp only[QiK,Qb,simprocAttr];refine(QkX _ b o H az).w ?_;rintro _ H _ aq ⟨rfl,rfl⟩;rw[bN];simp only[Qfq,Qb,simprocAttr];generalize ao:H.push _=H1;obtain⟨eC,aT⟩:∃eC,H1.get H.y=some (.C [.slice none 0 0] eC):=⟨_,by rw[<- ao,Qc,Lc rfl]⟩;have bj:Ext H H1:=by rw[<- ao];exact(Ext.refl H).push _
 have bX:H1.Wf:=by rw[<- ao];exact aq.push _
 have ct:H1.y=H.y+1:=by rw[<- ao];rfl
 clear ao;refine(Qdt o H1 (az.ext aq bj)).w ?_;rintro _ H2 cv aC ⟨rfl,e1,e2,ap⟩;have bm:Ext H1 H2:=by rw[ap];exact((Ext.refl H1).push _).push _
 have gB:H2.get H1.y=some (.C [.slice b4 b.length b5] e1):=by rw[ap,Qc,Le (by rw[Qd];omega),Qc,Lc rfl]
 have aV:H2.get (H1.y+1)=some (.C [.Z o] e2):=by rw[ap,Qc,Lc (by rw[Qd])]
 have cw:H2.y=H1.y+2:=by rw[ap,Qd,Qd]
 have aU:=(bm.get _ (bX.lt aT)).trans aT;clear ap;simp only[Qf,simprocAttr,Wu,simprocAttr,Ya];rw[QaB 23 [] [.P H1.y,.P (H1.y+1)]];intro Lm bJ;refine⟨by kernel_rfl,?_⟩;obtain⟨Hb,ah⟩:∃h,h=H2.push (Lm none):=⟨_,rfl⟩;have aF:Ext H2 Hb:=by rw[ah];exact(Ext.refl H2).push _
 have cC:Hb.Wf:=by rw[ah];exact aC.push _
 have c5:Hb.y=H2.y+1:=by rw[ah];rfl
 have bE:Hb.get H2.y=some (Lm none):=by rw[ah,Qc,Lc rfl]
 have bC:=(aF.get _ (aC.lt gB)).trans gB;have bD:=(aF.get _ (aC.lt aV)).trans aV;have aM:=(aF.get _ (aC.lt aU)).trans aU;rw[<- ah];clear ah;have aO:H.y<Hb.y:=by omega
 have aQ:H2.y<Hb.y:=by omega
 have aS:Ext H Hb:=(bj.trans bm).trans aF;obtain⟨W,ay⟩:∃W,W=XA L b b.length 0:=⟨_,rfl⟩;have bI:W.length<=65536:=by rw[ay];have:=QnK L b b.length 0 (L7 _);omega
 rw[<- ay];have bQ:=Qap (fl:=true) (T:=T) (L:=L) hT hR0 hty hsl (l:=H2.y) (bB:=H1.y) (oB:=H1.y+1) (R:=swR Hb H.y H2.y eC (Lm none) (W.map (svP lof o))) (Own:=swO H.y H2.y eC) (o:=o) (W:=W) aq aY az bM Hb aS bC bD ?_ ?_ ?_ (by omega) (by omega) (.all ay) ⟨?_,?_,?_⟩ ?_
 ·refine bQ.w ?_;rintro u H3 cx c9 ⟨⟨aN,bF,au,v,an,av,aW⟩,cp⟩;refine⟨none,aN,?_⟩;have ab:∀id,id≠H2.y->(H3.kill H2.y).get id=H3.get id:=λid aa=>by rw[Q0,Le aa]
  have aB:(H3.kill H2.y).y=H3.y:=rfl;have k5:=(ab H.y (by omega)).trans an;rw[<- List.map_take,Nr]at av;have k6:Qb7 Hb (H3.kill H2.y) v (W.map (svP lof o)):=av.keep λid aa _=>ab id (by omega);have bo:Ext H (H3.kill H2.y):=⟨by rw[aB];omega,λid aa=>by rw[ab id (by omega),au id (by omega) (by omega) (by omega)];exact aS.get id aa⟩;generalize H3.kill H2.y=H4 at *;simp only[Qb,simprocAttr,V5,k5,Qqa];exact .mk bo.y ⟨v,rfl,k6.down (by omega),bo⟩
 ·rintro(h | h | ⟨v,h,hi⟩);·omega
  ·omega
  rw[aM]at h;cases h;obtain⟨o',cj,c',e⟩:=hi;cases e
 ·rintro(h | h | ⟨v,h,hi⟩);·omega
  ·omega
  rw[aM]at h;cases h;obtain⟨o',cj,c',e⟩:=hi;cases e
 ·intro j Ha id bH bG;have:=(QB0 aO aQ bH bG).2;omega
 ·exact λj Ha Hc h aR hx=>QIm aO aQ h aR hx
 ·exact λj Ha id h hi=>(QB0 aO aQ h hi).1
 ·rintro j p Ha vs bc ⟨aN,bF,au,v,an,av,aW⟩ aR ⟨b8,cn,rfl,bL,bW,aZ,ba⟩;intro bZ;refine bJ H2.y _ Ha _ aN rfl ?_ bZ;have ab:∀id,id≠H2.y->(Ha.kill H2.y).get id=Ha.get id:=λid aa=>by rw[Q0,Le aa]
  have aB:(Ha.kill H2.y).y=Ha.y:=rfl;have aj:(Ha.kill H2.y).Wf:=aR.kill _;have k5:=(ab H.y (by omega)).trans an;have cb:Ext H (Ha.kill H2.y):=⟨by rw[aB];omega,λid aa=>by rw[ab id (by omega),au id (by omega) (by omega) (by omega)];exact aS.get id aa⟩;have k6:Qb7 Hb (Ha.kill H2.y) v ((W.map (svP lof o)).take j):=av.keep λid aa _=>ab id (by omega);have bq:ZJ (Ha.kill H2.y) b8 p.bs:=Qws bL λid hi=>ab id (aZ id hi).1;have bu:QQ (Ha.kill H2.y) cn p.l:=QsQ bW λid hi=>ab id (ba id hi).1;have k3:∀id,id<Hb.y->id≠H.y->id≠H2.y->(Ha.kill H2.y).get id=Hb.get id:=λid a b c=>(ab id c).trans (au id a b c);obtain⟨bw,cG,cH,ch,ci⟩:=QqO L b b.length 0 p (by rw[<- ay];exact Ln bc);generalize Ha.kill H2.y=Hk at *;obtain⟨aG,aH,rfl,cD,cE,_⟩:=id bq;obtain⟨aI,aJ,rfl,_⟩:=id bu;obtain⟨ak,am,rfl⟩:=k6.slc;have cK:¬H.y=Hk.y:=by omega
  simp only[K3,V6,Qb,simprocAttr];obtain⟨H5,ax⟩:∃h,h=(Hk.push (.C [.slice none 0 0,.Z 0,.slice none 0 0,.bool false] 44)).set Hk.y (.C [.slice aG p.bs.length aH,.Z p.op,.slice aI p.l.length aJ,.bool p.is] 44):=⟨_,rfl⟩;have ad:Ext Hk H5:=by rw[ax];exact((Ext.refl Hk).push _).set (Lb _) _
  have aD:H5.Wf:=by rw[ax];exact(aj.push _).set (by rw[Qc,Lc rfl]) _
  have ar:H5.get Hk.y=some (.C [.slice aG p.bs.length aH,.Z p.op,.slice aI p.l.length aJ,.bool p.is] 44):=by rw[ax,Qh,Lc rfl]
  have ce:=(ad.get _ (aj.lt k5)).trans k5;simp only[<- ax,Qfp,Qb,simprocAttr,ce,ar];have cq:(W.map (svP lof o)).length<=65536:=by rw[Nn];exact bI
  have ca:Ext H H5:=cb.trans ad;have br:=bq.ext aj ad;have cf:=bu.ext aj ad;have cg:∀id,inS (.slice ak ((W.map (svP lof o)).take j).length am) id->id<Hk.y:=λid hi=>by obtain⟨ss,_,aP,_⟩:=k6.it;rw[aB];exact(aW id (QKF aP hi)).1
  have b6:Qj H5.y 6 (.slice ak ((W.map (svP lof o)).take j).length am)=true:=QoW λid hi=>by have:=cg id hi;have:=ad.y;omega
  have bd:Hk.y<H5.y:=aD.lt ar;refine⟨b6,⟨bd,bd⟩,?_⟩;refine(QE1 _ p.bs H5 br bw (by omega)).w ?_;rintro _ H6 cy bh ⟨bR,ae,al,rfl,co⟩;have aL:=(ae.get _ (aD.lt ar)).trans ar;have bz:∀n,Hk.y<=n->Qj n 5 (.slice aI p.l.length aJ)=true:=λn bg=>QoW λid hi=>by have:=(ba id hi).2;omega
  have b7:∀n,Hk.y<=n->Qj n 5 (.slice aG p.bs.length aH)=true:=λn bg=>QoW λid hi=>by have:=(aZ id hi).2;omega
  have cJ:=ae.y;have cI:=ad.y;have b3:Qj H6.y 6 (.agg #[.slice aG p.bs.length aH,.Z p.op,.slice aI p.l.length aJ,.bool p.is])=true:=QFS (b7 _ (by omega)) (bz _ (by omega));simp only[Qb,simprocAttr];refine⟨ae.eqB,?_⟩;simp only[Qb,simprocAttr,aL,b3];refine⟨by omega,?_⟩;refine(QnH hT hO hP p.is (IntKind.i64.wrap (o+p.at_)) H6 (hT _ _ aq aY (ca.trans ae)) (cf.ext aD ae) (λn bg=>QjA (bz n (by omega))) (by omega) ch (br.ext aD ae) bw (λz cd=>cc z (ci z cd))).w ?_;rintro _ H7 cz bi ⟨rfl,aE⟩;have b9:=(aE.get _ (bh.lt aL)).trans aL;have bS:=bR.go bh aE;simp only[Qb,simprocAttr];refine⟨aE.eqB,?_⟩;simp only[Qb,simprocAttr,b9,QuM];refine⟨rfl,?_⟩;obtain⟨w,aK⟩:∃w,w=svP lof o p:=⟨_,rfl⟩;have bO:(W.map (svP lof o))[j]? = some w:=by rw[LD,bc,aK];rfl
  have bV:(W.map (svP lof o)).take (j+1)=(W.map (svP lof o)).take j++[w]:=by rw[Nv,bO];rfl
  obtain⟨H8,ag⟩:∃h,h=H7.push (.C [.Z (IntKind.i64.wrap (o+p.at_)),.S al p.bs.length (UNK+1),.string (mkS (QDm (lof p.op) p.op p.l p.bs p.is (IntKind.i64.wrap (o+p.at_)))),.bool p.is] 29):=⟨_,rfl⟩;have bn:Ext H7 H8:=by rw[ag];exact(Ext.refl H7).push _
  have bY:H8.Wf:=by rw[ag];exact bi.push _
  have bA:H8.get H7.y=some (.C [.Z w.at_,.S al w.bs.length (UNK+1),.string (mkS w.tx),.bool w.is] 29):=by rw[ag,Qc,Lc rfl,aK];rfl
  have c4:H8.y=H7.y+1:=by rw[ag];rfl
  simp only[<- ag];clear ag;have ai:Ext Hk H8:=((ad.trans ae).trans aE).trans bn;have bT:YX 4 (.S H7.y 1 1) H8=some (1,[.Z w.at_,.S al w.bs.length (UNK+1),.string (mkS w.tx),.bool w.is]):=by
   rw[KM bA (by decide) (by simp)];rfl
  have cr:((W.map (svP lof o)).take j).length<=65536:=by rw[Sb];omega
  obtain⟨Hz,bp,c8⟩:∃Hz:Qa,Ext Hz H8∧Hz.y=Hb.y:=⟨⟨Hb.y,H8.tr⟩,⟨by show Hb.y<=H8.y;have:=ai.y;omega,λid _=>rfl⟩,rfl⟩;have bP:Qb7 Hz H8 (.slice ak ((W.map (svP lof o)).take j).length am) ((W.map (svP lof o)).take j):=(k6.go aj ai).down (by omega);have bU:Gx 1 5 Hz H8 (.S al w.bs.length (UNK+1)) w.bs.length (bys w.bs):=by
   have h:Gx 1 5 H5 H8 (.S al p.bs.length (UNK+1)) p.bs.length (bys p.bs):=bS.go bi bn;rw[aK];exact h.down (by omega)
  have k8:=(ai.get _ (aj.lt k5)).trans k5;refine QKE bP bp bY bU bT (by omega) (by omega) ?_;intro cO H9 aA ac;obtain⟨b2,c',rfl⟩:=aA.slc;rw[<- bV]at aA ac ⊢;have aX:∀id,id<Hb.y->H9.get id=H8.get id:=λid aa=>(ac.x.get id (by omega)).trans (bp.get id (by omega)).symm;have k9:H9.get H.y=some (.C [.slice ak ((W.map (svP lof o)).take j).length am] eC):=by rw[aX _ (by omega)];exact k8
  have c6:=ac.y;have c7:=ai.y;simp only[Qb,simprocAttr,K2,k9,N1];refine⟨by omega,⟨by rw[Qh,Lc rfl],by rw[Qo,Qo];omega,λid p q r=>?_,.slice b2 ((W.map (svP lof o)).take (j+1)).length c',?_,?_,λid hi=>?_⟩,⟨by rw[Qo,Qo];omega,?_,λid p q=>?_,λid hi=>?_⟩⟩;·rw[Qh,Le r,Qh,Le q,aX _ (by omega),ai.get _ (by omega)];exact k3 id p q r
  ·rw[Qh,Le (by omega),Qh,Lc rfl]
  ·refine Qb7.keep (H0:=Hb) (H:=H9) (aA.down (by omega)) λid aa _=>?_;rw[Qh,Le (by omega),Qh,Le (by omega)]
  ·obtain⟨ss,_,aP,_⟩:=aA.it;have:=aP.low ac.w hi;rw[Qo,Qo];exact⟨this.2,by omega⟩
  ·intro id aa;rw[Qo,Qo]at aa;rw[Qh,Le (by omega),Qh,Le (by omega)];exact ac.w id aa
  ·have cl:id≠H.y:=λh=>q (.inl h);have bx:id≠H2.y:=λh=>q (.inr (.inl h));have cm:¬inB (.slice ak ((W.map (svP lof o)).take j).length am) id:=λh=>q (.inr (.inr ⟨_,an,h⟩));rw[Qh,Le bx,Qh,Le cl,ac.keep id (by omega) cm,ai.get _ (by omega),ab id bx]
  rcases hi with h | h | ⟨cP,h,hi⟩;·exact .inl (.inl h)
  ·exact .inl (.inr (.inl h))
  rw[Qh,Le (by omega),Qh,Lc rfl]at h;cases h;rcases ac.new id hi with h | h;·exact .inl (.inr (.inr ⟨_,an,h⟩))
  exact .inr (by omega)
 exact⟨bE,Lb _,λ_ _ _ _=>rfl,_,aM,Qb7.nil _ _,λid ⟨o,n,c,h⟩=>by cases h⟩
end
def Qbf (lof:Int->List Fm)(o:Int)(W:List Pc):List UInt8:=W.flatMap λp=>(svP lof o p).tx++[10]
def QyO (lof:Int->List Fm)(o:Int){W:List Pc}{j:Nat}{p:Pc}(h:W[j]? = some p):Qbf lof o (W.take (j+1))=Qbf lof o (W.take j)++((svP lof o p).tx++[10]):=by
 unfold Qbf;rw[Nv,h,Bm];simp
def QsS (lof:Int->List Fm)(o:Int):∀ (W:List Pc),(∀p∈W,(svP lof o p).tx.length<=100000)->(Qbf lof o W).length<=W.length * 100001
 | [],_=>Lb _
 | p::W,h=>by
  have ab:=QsS lof o W (λq aa=>h q (NA _ aa));have ac:=h p (Ny ..);unfold Qbf at *;rw[Ba,Lh,Lh,Lo,Lo,L9];omega
def SB (H0 H:Qa)(D lB:Nat)(l:List UInt8)(p v:Value):Prop:=H.get D=some (.C [p,v] 79)∧(p=.pointer none∨p=.P D)∧Gs 1 5 H0 H v l.length (u8v l)∧¬ZZ v D∧¬ZZ v lB∧Ext H0 H
def srR (H0:Qa)(D lB:Nat)(bl:Blk)(P:List UInt8)(lof:Int->List Fm)(o:Int)(W:List Pc)(j:Nat)(H:Qa):Prop:=H.get lB=some bl∧lB<H.y∧D<H.y∧∃p v,(∀id,ZZ v id->id<H.y)∧SB H0 H D lB (P++Qbf lof o (W.take j)) p v
def srO (D lB:Nat)(H:Qa)(id:Nat):Prop:=id=D∨id=lB∨∃p v,H.get D=some (.C [p,v] 79)∧ZZ v id
section
variable {H0:Qa} {D lB:Nat} {bl:Blk} {P:List UInt8} {lof:Int->List Fm} {o:Int} {W:List Pc} {j:Nat}
def QIn {H1 H2:Qa}(h:srR H0 D lB bl P lof o W j H1)(ad:H1.Wf)(hx:Ext H1 H2):srR H0 D lB bl P lof o W j H2∧∀id,srO D lB H2 id->srO D lB H1 id:=by
 obtain⟨ae,aa,ak,p,v,al,ab,ag,ac,ah,ai,aj⟩:=h;have e3:=hx.get D (ad.lt ab);refine⟨⟨(hx.get lB aa).trans ae,N5 aa hx.y,N5 ak hx.y,p,v,λid hi=>N5 (al id hi) hx.y,e3.trans ab,ag,ac.ext λid am=>hx.get id (ac.low ad am).2,ah,ai,aj.trans hx⟩,λid hi=>?_⟩;rcases hi with h | h | ⟨an,ao,h,hi⟩;·exact .inl h
 ·exact .inr (.inl h)
 exact .inr (.inr ⟨an,ao,e3▸h,hi⟩)
def QMK {H0 H:Qa}{v:Value}{n:Nat}{cs:List Value}(h:Gs 1 5 H0 H v n cs){id:Nat}(hi:ZZ v id):H0.y<=id∧∃b,H.get id=some b:=by
 rcases h with⟨rfl,_⟩ | ⟨b,rfl,aa,ab,_⟩;·obtain⟨_,_,_,e⟩:=hi;cases e
 obtain⟨_,_,_,e⟩:=hi;cases e;exact⟨aa,_,ab⟩
def QIo {H1:Qa}(ad:H0.y<=D)(ae:H0.y<=lB)(h:srR H0 D lB bl P lof o W j H1){id:Nat}(hi:srO D lB H1 id):H0.y<=id∧∃b,H1.get id=some b:=by
 obtain⟨ab,ag,al,p,v,am,aa,ah,ac,ai,aj,ak⟩:=h;rcases hi with rfl | rfl | ⟨an,ao,h,hi⟩;·exact⟨ad,_,aa⟩
 ·exact⟨ae,_,ab⟩
 rw[aa]at h;cases h;exact QMK ac hi
end
def QIp (L:List Fm)(lof:Int->List Fm)(b:List Int)(o:Int):List UInt8:=[111,114,103,32]++QeC o++[10]++Qbf lof o (XA L b b.length 0)
def QDx (H:Qa)(aa:H.Wf):Qmt 79 H (H.push (.C [.pointer none,.slice none 0 0] 79)) H.y [] (.pointer none) (.slice none 0 0):=
 ⟨by rw[Qc,Lc rfl],.inl rfl,.inl ⟨rfl,rfl,rfl⟩,Lb _,fun⟨_,_,_,e⟩=>(by cases e),aa.push _,(Ext.refl H).push _⟩
section
variable {T:Qa->Prop} {L:List Fm} {lof:Int->List Fm} (hP:QrH T) (hT:∀H H',H.Wf->T H->Ext H H'->T H') (hO:∀op H,T H->Qe Pg 36 [.Z op] H λu H'=>QaY H H' u (lof op)) (hR0:∀H,T H->Qe Pg 48 [] H λu H'=>QaY H H' u L) (hty:QhN 64) (hsl:∀f∈L,f.shapes.length=f.slots.length)
include hP hT hO hR0 hty hsl
def QsT {bv:Value}{b:List Int}{o:Int}(H:Qa)(aH:T H)(aB:ZJ H bv b)(bC:b.length<=65536)(bS:∀z∈b,0<=z∧z<256)(bD:Qsk b.length o=0)(aS:I64 o)(aJ:∀p∈XA L b b.length 0,(svP lof o p).tx.length<=100000):
  Qe Pg 18 [bv,.Z o] H λu H'=>u=.tuple #[.string (mkS (QIp L lof b o)),.Z 0]∧Ext H H':=by
 refine Qqc λaj=>?_;have b9:=aB;obtain⟨bm,bn,rfl,_⟩:=b9;simp only[Qhh,Qb,simprocAttr];refine(QkX _ b o H aB).w ?_;rintro _ H _ aj ⟨rfl,rfl⟩;rw[bD];have ch:((0:Int)==0)=true:=rfl;simp only[QdS,Qb,simprocAttr,ch];have aG:=QDx H aj;generalize H.push (.C [.pointer none,.slice none 0 0] 79)=H1 at *;have aV:=aG.ext;have c6:=aG.wf;have cm:=Z9 o aS;refine(Kh hP.q o aS H1 (hT _ _ aj aH aV)).w ?_;rintro _ H2 cn bM ⟨rfl,bQ⟩;have bz:=aG.go bQ bM;simp only[Qb,simprocAttr,Xh];refine⟨by omega,by omega,?_⟩;obtain⟨P,aA⟩:∃P,P=[111,114,103,32]++QeC o++[10]:=⟨_,rfl⟩;have ci:P.length<=100:=by rw[aA];simp;omega
 rw[show(111::114::103::32::(QeC o++[10]))=P from by rw[aA];simp];refine(Qcp (.inr rfl) bz (m:=P) (by simp;omega)).w ?_;rintro _ H3 co aT ⟨⟨cK,cO,rfl⟩,ca,bg,ah,c4⟩;rw[LH]at ah;simp only[Qb,simprocAttr];refine(Qdt o H3 (aB.ext aj ah.ext)).w ?_;rintro _ H4 cp aD ⟨rfl,e1,e2,am⟩;have bR:Ext H3 H4:=by rw[am];exact((Ext.refl H3).push _).push _
 have gB:H4.get H3.y=some (.C [.slice bm b.length bn] e1):=by rw[am,Qc,Le (by rw[Qd];omega),Qc,Lc rfl]
 have aP:H4.get (H3.y+1)=some (.C [.Z o] e2):=by rw[am,Qc,Lc (by rw[Qd])]
 have cq:H4.y=H3.y+2:=by rw[am,Qd,Qd]
 have b2:=ah.go bR aD;have aF:∀id,ZZ bg id->id<H3.y:=λid hi=>(ah.gs.low aT hi).2;have c9:=aT.lt ah.get;clear am;simp only[Qf,simprocAttr,Wu,simprocAttr,Ya];rw[QaB 23 [] [.P H3.y,.P (H3.y+1)]];intro Lm b7;refine⟨by kernel_rfl,?_⟩;obtain⟨Hb,ai⟩:∃h,h=H4.push (Lm none):=⟨_,rfl⟩;have aL:Ext H4 Hb:=by rw[ai];exact(Ext.refl H4).push _
 have bP:Hb.Wf:=by rw[ai];exact aD.push _
 have cw:Hb.y=H4.y+1:=by rw[ai];rfl
 have bw:Hb.get H4.y=some (Lm none):=by rw[ai,Qc,Lc rfl]
 have br:=(aL.get _ (aD.lt gB)).trans gB;have bu:=(aL.get _ (aD.lt aP)).trans aP;have ae:=b2.go aL bP;rw[<- ai];clear ai;have aY:=ae.ext;obtain⟨W,an⟩:∃W,W=XA L b b.length 0:=⟨_,rfl⟩;have cj:W.length<=65536:=by rw[an];have:=QnK L b b.length 0 (L7 _);omega
 rw[<- an]at aJ;have bK:QIp L lof b o=P++Qbf lof o W:=by rw[an,aA];rfl
 rw[bK];have aR:∀j,(P++Qbf lof o (W.take j)).length<=100+65536 * 100001:=λj=>by
  have ak:=QsS lof o (W.take j) (λp bI=>aJ p (List.mem_of_mem_take bI));have ar:(W.take j).length<=65536:=by rw[Sb];omega
  rw[Lh];omega
 have cD:=aV.y;have cE:=ah.ext.y;have R0:srR H H.y H4.y (Lm none) P lof o W 0 Hb:=⟨bw,by omega,by omega,ca,bg,λid hi=>by have:=aF id hi;omega,ae.get,ae.ptr,by rw[Rb];simpa[Qbf] using ae.gs,ae.apart,λhi=>by have:=aF _ hi;omega,aY⟩;have bJ:=Qap (fl:=true) (T:=T) (L:=L) hT hR0 hty hsl (l:=H4.y) (bB:=H3.y) (oB:=H3.y+1) (R:=srR H H.y H4.y (Lm none) P lof o W) (Own:=srO H.y H4.y) (o:=o) (W:=W) aj aH aB bC Hb aY br bu ?_ ?_ ?_ (by omega) (by omega) (.all an) ⟨?_,?_,?_⟩ R0
 ·refine bJ.w ?_;rintro u H5 cr aK ⟨⟨ak,ar,_,aM,aq,_,ab,au,ag,av,al,ax⟩,cl⟩;rw[Nr]at ag;refine⟨none,ak,?_⟩;have ad:∀id,id≠H4.y->(H5.kill H4.y).get id=H5.get id:=λid aa=>by rw[Q0,Le aa]
  have ay:Qmt 79 H (H5.kill H4.y) H.y (P++Qbf lof o W) aM aq:=⟨(ad _ (by omega)).trans ab,au,ag.ext λid aa=>ad id λe=>al (e▸aa),Lb _,av,aK.kill _,ax.kill (by omega)⟩;generalize H5.kill H4.y=H6 at *;have bG:=aR W.length;rw[Nr]at bG;simp only[Qb,simprocAttr,V5];refine(Qut ay (by rw[aA];simp) (by omega)).w ?_;rintro _ H7 _ _ ⟨rfl,aX⟩;simp only[Qb,simprocAttr,Qon];exact .mk aX.y ⟨rfl,aX⟩
 ·rintro(h | h | ⟨p,v,h,hi⟩);·omega
  ·omega
  rw[ae.get]at h;cases h;have:=aF _ hi;omega
 ·rintro(h | h | ⟨p,v,h,hi⟩);·omega
  ·omega
  rw[ae.get]at h;cases h;have:=aF _ hi;omega
 ·exact λj Ha id b6 b5=>(QIo (Lb _) (by omega) b6 b5).1
 ·exact λj Ha Hc h ao hx=>QIn h ao hx
 ·intro j Ha id h hi;obtain⟨ak,ar,bx,p,v,b8,ab,au,ag,av,al,ax⟩:=h;rcases hi with rfl | rfl | ⟨bZ,ce,h,hi⟩;·exact bx
  ·exact ar
  rw[ab]at h;cases h;exact b8 id hi
 rintro j p Ha vs aI ⟨ak,ar,_,aM,aq,_,ab,au,ag,av,al,ax⟩ ao ⟨bo,cf,rfl,bA,bL,bE,aQ⟩;intro bO;refine b7 H4.y _ Ha _ ak rfl ?_ bO;have ad:∀id,id≠H4.y->(Ha.kill H4.y).get id=Ha.get id:=λid aa=>by rw[Q0,Le aa]
 have cx:(Ha.kill H4.y).y=Ha.y:=rfl;have aE:(Ha.kill H4.y).Wf:=ao.kill _;have b4:Qmt 79 H (Ha.kill H4.y) H.y (P++Qbf lof o (W.take j)) aM aq:=⟨(ad _ (by omega)).trans ab,au,ag.ext λid aa=>ad id λe=>al (e▸aa),Lb _,av,aE,ax.kill (by omega)⟩;have ba:ZJ (Ha.kill H4.y) bo p.bs:=Qws bA λid hi=>ad id (bE id hi).1;have bc:QQ (Ha.kill H4.y) cf p.l:=QsQ bL λid hi=>ad id (aQ id hi).1;obtain⟨bW,cH,cI,bX,bY⟩:=QqO L b b.length 0 p (by rw[<- an];exact Ln aI);have cR:∀id,ZZ aq id->id<Ha.y:=λid hi=>(ag.low ao hi).2;have cC:=ao.lt ab;have cG:(Ha.kill H4.y).get H4.y=none:=by rw[Q0,Lc rfl]
 generalize Ha.kill H4.y=Hk at *;obtain⟨bi,bj,rfl,c7,c8,_⟩:=id ba;obtain⟨aN,aO,rfl,_⟩:=id bc;simp only[K3,V6,Qb,simprocAttr];obtain⟨H5,az⟩:∃h,h=(Hk.push (.C [.slice none 0 0,.Z 0,.slice none 0 0,.bool false] 44)).set Hk.y (.C [.slice bi p.bs.length bj,.Z p.op,.slice aN p.l.length aO,.bool p.is] 44):=⟨_,rfl⟩;have ap:Ext Hk H5:=by rw[az];exact((Ext.refl Hk).push _).set (Lb _) _
 have aK:H5.Wf:=by rw[az];exact(aE.push _).set (by rw[Qc,Lc rfl]) _
 have bq:H5.get Hk.y=some (.C [.slice bi p.bs.length bj,.Z p.op,.slice aN p.l.length aO,.bool p.is] 44):=by rw[az,Qh,Lc rfl]
 have ay:=b4.go ap aK;have bU:=ba.ext aE ap;have bV:=bc.ext aE ap;have cg:∀n,Hk.y<=n->Qj n 5 (.slice aN p.l.length aO)=true:=λn bH=>QoW λid hi=>by have:=(aQ id hi).2;omega
 have cJ:=ap.y;simp only[<- az,QdR,Qb,simprocAttr,bq];refine(QnH hT hO hP p.is (IntKind.i64.wrap (o+p.at_)) H5 (hT _ _ aj aH ay.ext) bV (λn bH=>QjA (cg n (by omega))) (by omega) bX bU bW (λz bT=>bS z (bY z bT))).w ?_;rintro _ H6 ct bN ⟨rfl,aW⟩;have b3:=ay.go aW bN;have aZ:=ap.trans aW;have bp:QDm (lof p.op) p.op p.l p.bs p.is (IntKind.i64.wrap (o+p.at_))=(svP lof o p).tx:=rfl;have cz:=aJ p (Ln aI);have bF:=aR j;rw[bp];simp only[Qb,simprocAttr,Xh];refine⟨by omega,?_⟩;refine(Qcp (.inr rfl) b3 (m:=(svP lof o p).tx++[10]) (by simp only[Lh,Lo,L9]at bF ⊢;omega)).w ?_;rintro _ H7 cv aU ⟨⟨cP,cQ,rfl⟩,cb,bh,ac,aC⟩;rw[LQ,<- QyO lof o aI]at ac;have cy:=aZ.y;have nv:¬ZZ bh H4.y:=λhi=>by
  rcases aC.new _ hi with h | h;·exact al h
  omega
 have c5:=aC.y;simp only[Qb,simprocAttr,K2];have ss:∀id,id≠H4.y->(H7.set H4.y (Lm none)).get id=H7.get id:=λid aa=>by rw[Qh,Le aa]
 refine⟨by omega,by simp,⟨by rw[Qh,Lc rfl],by rw[Qo];omega,by rw[Qo];omega,cb,bh,λid hi=>by rw[Qo];exact(ac.gs.low aU hi).2,(ss _ (by omega)).trans ac.get,ac.ptr,ac.gs.ext λid aa=>ss id λe=>nv (e▸aa),ac.apart,nv,ac.ext.set (by omega) _⟩,⟨by rw[Qo];omega,?_,λid p q=>?_,λid hi=>?_⟩⟩;·intro id aa;rw[Qo]at aa;rw[ss id (by omega)];exact aU id aa
 ·have cc:id≠H.y:=λh=>q (.inl h);have bd:id≠H4.y:=λh=>q (.inr (.inl h));have cd:¬ZZ aq id:=λh=>q (.inr (.inr ⟨_,_,ab,h⟩));rw[ss id bd,aC.keep id (by omega) cc cd,aZ.get id (by omega),ad id bd]
 rcases hi with h | h | ⟨bZ,ce,h,hi⟩;·exact .inl (.inl h)
 ·exact .inl (.inr (.inl h))
 rw[ss _ (by omega),ac.get]at h;cases h;rcases aC.new id hi with h | h;·exact .inl (.inr (.inr ⟨_,_,ab,h⟩))
 exact .inr (by omega)
end
def QnL (ok:Pc->Bool):List Pc->List Pc
 | []=>[]
 | q::Q=>if ok q=true then q::QnL ok Q else[q]
def QyP (ok:Pc->Bool):∀Q:List Pc,PW (Q.all ok) (QnL ok Q) Q
 | []=>.all rfl
 | q::Q=>by
  obtain⟨m,ab,ac,ad⟩:=QyP ok Q;unfold QnL;rw[Bv]
  by_cases h:ok q=true;·rw[Lc h,h,LJ];exact⟨m+1,by rw[ab,List.take_succ_cons],λaa=>by have:=ac aa;rw[Lo];omega,λaa=>by have:=ad aa;rw[Lo];omega⟩
  rw[Le h,(by simpa using h:ok q=false),NG];exact⟨1,rfl,λaa=>(by cases aa),λ_=>by rw[Lo];omega⟩
def QyQ (ok:Pc->Bool):∀ (Q:List Pc) (j:Nat) (p:Pc),(QnL ok Q)[j]? = some p->ok p=(Q.all ok||decide (j+1<(QnL ok Q).length))
 | [],j,p,h=>by simp[QnL]at h
 | q::Q,j,p,h=>by
  unfold QnL at h ⊢;rw[Bv]
  by_cases aa:ok q=true
  ·rw[Lc aa]at h ⊢;rw[aa,LJ];cases j with
   | zero=>
    have e:q=p:=by simpa using h
    subst e;rw[aa];cases Q with
    | nil=>rfl
    | cons r Q=>unfold QnL;split<;>simp
   | succ j=>
    rw[QyQ ok Q j p (by simpa using h)];simp
  rw[Le aa]at h ⊢;cases j with
  | zero=>
   have e:q=p:=by simpa using h
   subst e;simp[aa]
  | succ j=>simp at h
def okP (lof:Int->List Fm)(p:Pc):Bool:=!p.is||((QtR (lof p.op) p.op p.l (Qk8 (lof p.op) p.op p.l p.bs)).2==0&&QeQ (QtR (lof p.op) p.op p.l (Qk8 (lof p.op) p.op p.l p.bs)).1 p.bs)
def plR (H0:Qa)(aa lB:Nat)(Lm:Option Code->Blk)(fl:Bool)(n j:Nat)(H:Qa):Prop:=H.get lB=some (if fl=false∧j=n then Lm (some .ret) else Lm none)∧H.get aa=some (.C [.bool false] 4)∧lB<H.y∧aa<H.y∧Ext H0 H
def QIq {H0 H1 H2:Qa}{aa lB:Nat}{Lm:Option Code->Blk}{fl:Bool}{n j:Nat}(h:plR H0 aa lB Lm fl n j H1)(hx:Ext H1 H2):plR H0 aa lB Lm fl n j H2:=by
 obtain⟨ab,ac,ad,ae,ag⟩:=h;have:=hx.y;exact⟨(hx.get _ ad).trans ab,(hx.get _ ae).trans ac,by omega,by omega,ag.trans hx⟩
section
variable {T:Qa->Prop} {L:List Fm} {lof:Int->List Fm} (hT:∀H H',H.Wf->T H->Ext H H'->T H') (hO:∀op H,T H->Qe Pg 36 [.Z op] H λu H'=>QaY H H' u (lof op)) (hR0:∀H,T H->Qe Pg 48 [] H λu H'=>QaY H H' u L) (hty:QhN 64) (hsl:∀f∈L,f.shapes.length=f.slots.length)
include hT hO hR0 hty hsl
def QtX {bv:Value}{b:List Int}(H:Qa)(aF:T H)(aG:ZJ H bv b)(bD:b.length<=65536):
  Qe Pg 11 [bv] H λu H'=>u=.bool ((XA L b b.length 0).all (okP lof))∧Ext H H':=by
 refine Qr1 λap=>?_;have bA:=aG;obtain⟨bw,bx,rfl,_⟩:=bA;obtain⟨fl,aW⟩:∃fl,fl=(XA L b b.length 0).all (okP lof):=⟨_,rfl⟩;obtain⟨W,b8⟩:∃W,W=QnL (okP lof) (XA L b b.length 0):=⟨_,rfl⟩;have av:=QyP (okP lof) (XA L b b.length 0);have ba:=QyQ (okP lof) (XA L b b.length 0);rw[<- aW,<- b8]at av ba;rw[<- aW];have bE:∀ (j:Nat) (p:Pc),W[j]? = some p->p∈XA L b b.length 0:=λj p h=>by
  obtain⟨m,ab,_⟩:=av;rw[ab]at h;exact List.mem_of_mem_take (Ln h)
 have b7:decide ((b.length:Int)>65536)=false:=Lj (by omega);simp only[QiL,Qb,simprocAttr,b7];generalize an:H.push _=H1;have aQ:H1.get H.y=some (.C [.bool false] 4):=by rw[<- an,Qc,Lc rfl]
 have bh:Ext H H1:=by rw[<- an];exact(Ext.refl H).push _
 have bH:H1.Wf:=by rw[<- an];exact ap.push _
 have bT:H1.y=H.y+1:=by rw[<- an];rfl
 clear an;simp only[Qfu,Qb,simprocAttr];refine(Qdt 0 H1 (aG.ext ap bh)).w ?_;rintro _ H2 bU ax ⟨rfl,e1,e2,ao⟩;have bi:Ext H1 H2:=by rw[ao];exact((Ext.refl H1).push _).push _
 have gB:H2.get H1.y=some (.C [.slice bw b.length bx] e1):=by rw[ao,Qc,Le (by rw[Qd];omega),Qc,Lc rfl]
 have aS:H2.get (H1.y+1)=some (.C [.Z 0] e2):=by rw[ao,Qc,Lc (by rw[Qd])]
 have bV:H2.y=H1.y+2:=by rw[ao,Qd,Qd]
 have aR:=(bi.get _ (bH.lt aQ)).trans aQ;clear ao;simp only[Qf,simprocAttr,Wu,simprocAttr,Ya];rw[QaB 23 [] [.P H1.y,.P (H1.y+1)]];intro Lm b9;refine⟨by kernel_rfl,?_⟩;obtain⟨Hb,al⟩:∃h,h=H2.push (Lm none):=⟨_,rfl⟩;have aC:Ext H2 Hb:=by rw[al];exact(Ext.refl H2).push _
 have cb:Hb.Wf:=by rw[al];exact ax.push _
 have bZ:Hb.y=H2.y+1:=by rw[al];rfl
 have b6:Hb.get H2.y=some (Lm none):=by rw[al,Qc,Lc rfl]
 have b3:=(aC.get _ (ax.lt gB)).trans gB;have b4:=(aC.get _ (ax.lt aS)).trans aS;have b5:=(aC.get _ (ax.lt aR)).trans aR;rw[<- al];clear al;have bj:Ext H Hb:=(bh.trans bi).trans aC;have R0:plR H H.y H2.y Lm fl W.length 0 Hb:=by
  refine⟨?_,b5,by omega,by omega,bj⟩;rw[b6];split;·rename_i h;obtain⟨m,ab,_,ak⟩:=av;have:=ak h.1;rw[ab,Sb]at h;omega
  rfl
 have bF:=Qap (fl:=fl) (T:=T) (L:=L) hT hR0 hty hsl (l:=H2.y) (bB:=H1.y) (oB:=H1.y+1) (R:=plR H H.y H2.y Lm fl W.length) (Own:=λ_ id=>id=H.y∨id=H2.y) (o:=0) (W:=W) ap aF aG bD Hb bj b3 b4 (by omega) (by omega) ?_ (by omega) (by omega) av ⟨?_,?_,?_⟩ R0
 ·refine bF.w ?_;rintro u H3 bW bI ⟨⟨ab,ak,aD,aE,ar⟩,bR⟩;have aj:∀id,id≠H2.y->(H3.kill H2.y).get id=H3.get id:=λid aa=>by rw[Q0,Le aa]
  have k2:=(aj H.y (by omega)).trans ak;have ag:Ext H (H3.kill H2.y):=ar.kill (by omega);have ah:(H3.kill H2.y).Wf:=bI.kill _;generalize H3.kill H2.y=H4 at *;cases fl with
  | true=>
   rw[Le (by simp)]at ab;refine⟨none,ab,?_⟩;simp only[Qb,simprocAttr,V5,k2,Qhf];exact .mk (ag.set (Lb _) _).y ⟨rfl,ag.set (Lb _) _⟩
  | false=>
   rw[Lc ⟨rfl,rfl⟩]at ab;refine⟨some .ret,ab,?_⟩;simp only[Qb,simprocAttr,Qw5,k2,Qhf];exact .mk ag.y ⟨rfl,ag⟩
 ·rintro j Ha id h (rfl | rfl);·omega
  omega
 ·exact λj Ha Hc h bd hx=>⟨QIq h hx,λid hi=>hi⟩
 ·rintro j Ha id ⟨ab,ak,aD,aE,ar⟩ (rfl | rfl);·exact aE
  exact aD
 rintro j p Ha vs aI ⟨ab,ak,aD,aE,ar⟩ bd ⟨bz,bO,rfl,bC,bG,aX,aY⟩;intro bK;have bS:=(Lk.1 aI).1;rw[Le (by omega)]at ab;refine b9 H2.y _ Ha _ ab rfl ?_ bK;have aj:∀id,id≠H2.y->(Ha.kill H2.y).get id=Ha.get id:=λid aa=>by rw[Q0,Le aa]
 have ca:(Ha.kill H2.y).y=Ha.y:=rfl;have ah:(Ha.kill H2.y).Wf:=bd.kill _;have k2:=(aj H.y (by omega)).trans ak;have ag:Ext H (Ha.kill H2.y):=ar.kill (by omega);have bm:ZJ (Ha.kill H2.y) bz p.bs:=Qws bC λid hi=>aj id (aX id hi).1;have bo:QQ (Ha.kill H2.y) bO p.l:=QsQ bG λid hi=>aj id (aY id hi).1;obtain⟨ce,cf,cg,bq,ch⟩:=QqO L b b.length 0 p (bE j p aI);have aU:=ba j p aI;generalize Ha.kill H2.y=Hk at *;obtain⟨aM,aN,rfl,cc,cd,_⟩:=id bm;obtain⟨aO,aP,rfl,_⟩:=id bo;simp only[K3,V6,Qb,simprocAttr];obtain⟨H5,au⟩:∃h,h=(Hk.push (.C [.slice none 0 0,.Z 0,.slice none 0 0,.bool false] 44)).set Hk.y (.C [.slice aM p.bs.length aN,.Z p.op,.slice aO p.l.length aP,.bool p.is] 44):=⟨_,rfl⟩;have ai:Ext Hk H5:=by rw[au];exact((Ext.refl Hk).push _).set (Lb _) _
 have ay:H5.Wf:=by rw[au];exact(ah.push _).set (by rw[Qc,Lc rfl]) _
 have am:H5.get Hk.y=some (.C [.slice aM p.bs.length aN,.Z p.op,.slice aO p.l.length aP,.bool p.is] 44):=by rw[au,Qh,Lc rfl]
 have bn:=bm.ext ah ai;have bp:=bo.ext ah ai;have k5:=(ai.get _ (ah.lt k2)).trans k2;have bg:=ag.trans ai;have aL:∀n,Hk.y<=n->Qj n 5 (.slice aO p.l.length aP)=true:=λn aJ=>QoW λid hi=>by have:=(aY id hi).2;omega
 have bP:∀n,Hk.y<=n->Qj n 5 (.slice aM p.bs.length aN)=true:=λn aJ=>QoW λid hi=>by have:=(aX id hi).2;omega
 have bN:=ai.y;have bM:=ay.lt am
 -- the ends of a round
 have go:∀ (H6:Qa),H6.Wf->Ext Hk H6->okP lof p=true->∀A6,QGf Lm H2.y Ha.y (λu H'=>u=.bool (fl||decide (j+1<W.length))∧plR H H.y H2.y Lm fl W.length (j+1) H'∧CK (λ_ id=>id=H.y∨id=H2.y) Ha H') A6 H6:=by
  intro H6 az ac ae A6;rw[aU]at ae;have aZ:=ac.y;rw[K2];have ss:∀id,id≠H2.y->(H6.set H2.y (Lm none)).get id=H6.get id:=λid aa=>by rw[Qh,Le aa]
  refine⟨by omega,by rw[ae],⟨?_,?_,by rw[Qo];omega,by rw[Qo];omega,?_⟩,⟨by rw[Qo];omega,?_,λid a q=>?_,λid hi=>.inl hi⟩⟩;·rw[Qh,Lc rfl,Le];rintro⟨rfl,e⟩;simp at ae;omega
  ·rw[ss _ (by omega),ac.get _ (by omega)];exact k2
  ·exact(ag.trans ac).set (by omega) _
  ·intro id aa;rw[Qo]at aa;rw[ss id (by omega)];exact az id aa
  have aq:id≠H2.y:=λh=>q (.inr h);rw[ss id aq,ac.get id (by omega),aj id aq]
 have br:∀ (H6:Qa),H6.Wf->Ext Hk H6->okP lof p=false->∀A6,(QDV Lm H2.y Ha.y (λu H'=>u=.bool (fl||decide (j+1<W.length))∧plR H H.y H2.y Lm fl W.length (j+1) H'∧CK (λ_ id=>id=H.y∨id=H2.y) Ha H')).ret A6 (H6.set H.y (.C [.bool false] 4)):=by
  intro H6 az ac ae A6;rw[aU]at ae;have aZ:=ac.y;rw[Qw6];have k6:=(ac.get _ (ah.lt k2)).trans k2;have ss:∀id,id≠H2.y->((H6.set H.y (.C [.bool false] 4)).set H2.y (Lm (some .ret))).get id=H6.get id:=λid aa=>by
   rw[Qh,Le aa,Qh];split;·rename_i e;rw[e];exact k6.symm
   rfl
  refine⟨by rw[Qo];omega,by rw[ae],⟨?_,?_,by rw[Qo,Qo];omega,by rw[Qo,Qo];omega,?_⟩,⟨by rw[Qo,Qo];omega,?_,λid a q=>?_,λid hi=>.inl hi⟩⟩;·rw[Qh,Lc rfl,Lc];simp at ae;exact⟨ae.1,by omega⟩
  ·rw[ss _ (by omega)];exact k6
  ·exact((ag.trans ac).set (Lb _) _).set (by omega) _
  ·intro id aa;rw[Qo,Qo]at aa;rw[ss id (by omega)];exact az id aa
  have aq:id≠H2.y:=λh=>q (.inr h);rw[ss id aq,ac.get id (by omega),aj id aq]
 simp only[<- au,Qft,Qb,simprocAttr,am];cases aH:p.is with
 | false=>
  simp only[Qb,simprocAttr];exact go H5 ay ai (by unfold okP;rw[aH];rfl) _
 | true=>
  rw[aH]at am;simp only[Qb,simprocAttr,Qfs,am];refine⟨QjA (aL _ bN),?_⟩;refine(QnG hT hO true H5 (hT _ _ ap aF bg) bp (λn aJ=>QjA (aL n (by omega))) (by omega) bq bn).w ?_;rintro _ H6 aZ az ⟨rfl,aA⟩;refine⟨aA.eqB,?_⟩;simp only[Qb,simprocAttr];refine(Qqv hT hO (Qk8 (lof p.op) p.op p.l p.bs) H6 (hT _ _ ap aF (bg.trans aA)) (bp.ext ay aA) (λn aJ=>QjA (aL n (by omega))) (by omega) bq).w ?_;rintro _ H7 bX bJ ⟨ci,rfl,aT,bL⟩;have aK:=aA.trans bL;have aB:=ai.trans aK;have b2:=(aK.get _ bM).trans am;have k7:=(aB.get _ (ah.lt k2)).trans k2;obtain⟨a8,bQ,rfl⟩:=aT.slc;have aV:=aT.cellsB;have ad:okP lof p=((QtR (lof p.op) p.op p.l (Qk8 (lof p.op) p.op p.l p.bs)).2==0&&QeQ (QtR (lof p.op) p.op p.l (Qk8 (lof p.op) p.op p.l p.bs)).1 p.bs):=by unfold okP;rw[aH];rfl
  generalize QtR (lof p.op) p.op p.l (Qk8 (lof p.op) p.op p.l p.bs)=E at *;obtain⟨E1,E2⟩:=E;simp only at ad aV;simp only[Qb,simprocAttr];cases z:E2==0 with
  | false=>
   rw[z,NG]at ad;simp only[Qb,simprocAttr,k7];exact br H7 bJ aB ad _
  | true=>
   rw[z,LJ]at ad;simp only[Qb,simprocAttr,b2];refine(QkW _ _ E1 p.bs H7 aV ((bn.ext ay aK).cells)).w ?_;rintro _ H8 bY bc ⟨rfl,rfl⟩;cases bu:QeQ E1 p.bs with
   | true=>
    rw[bu]at ad;simp only[Qb,simprocAttr];exact go H8 bc aB ad _
   | false=>
    rw[bu]at ad;simp only[Qb,simprocAttr,k7];exact br H8 bc aB ad _
end
def QFT:∀ (ss:List Value) (ws:List Sv) (i:Nat) (s:Value) (w:Sv),ss[i]? = some s->ws[i]? = some w->((svC ss ws).drop (i * 4)).take 4=[.Z w.at_,s,.string (mkS w.tx),.bool w.is]
 | [],_,_,_,_,h,_=>by simp at h
 | _::_,[],_,_,_,_,h=>by simp at h
 | s::ss,w::ws,0,_,_,h1,h2=>by cases h1;cases h2;rfl
 | s::ss,w::ws,i+1,s',w',h1,h2=>by
  have e:svC (s::ss) (w::ws)=[.Z w.at_,s,.string (mkS w.tx),.bool w.is]++svC ss ws:=rfl;rw[e,show(i+1) * 4=4+i * 4 by omega,<- Rc];exact QFT ss ws i s' w' h1 h2
structure QML (H0 H:Qa) (C:List Value) (n i:Nat) (s:Value) (w:Sv):Prop where
 len:C.length=n * 4
 all:(C.drop (i * 4)).take 4=[.Z w.at_,s,.string (mkS w.tx),.bool w.is]
 c0:C[i * 4]? = some (.Z w.at_)
 c1:C[i * 4+1]? = some s
 c2:C[i * 4+2]? = some (.string (mkS w.tx))
 c3:C[i * 4+3]? = some (.bool w.is)
 bs:Gx 1 5 H0 H s w.bs.length (bys w.bs)
def Qb7.at {H0 H:Qa}{a:Option Addr}{n c:Nat}{ws:List Sv}(h:Qb7 H0 H (.slice a n c) ws){i:Nat}{w:Sv}(hi:ws[i]? = some w):∃b,a=some ⟨b,0,none⟩∧∃C s,H.get b=some (.C C 29)∧QML H0 H C ws.length i s w:=by
 obtain⟨ss,ad,ae,ag⟩:=h.it;have aj:=(Lk.1 hi).1;rcases ae with⟨_,h,_⟩ | ⟨b,c',h,ak,ai,_⟩;·omega
 cases h;obtain⟨s,aa⟩:∃s,ss[i]? = some s:=⟨_,La (by omega)⟩;have ab:=QFT ss ws i s w aa hi;have key:∀ (k:Nat) v,k<4->([.Z w.at_,s,.string (mkS w.tx),.bool w.is]:List Value)[k]? = some v->(svC ss ws)[i * 4+k]? = some v:=λk v ah ac=>by
  rw[<- ab,Nl,Lc ah,Nk]at ac;exact ac
 exact⟨b,rfl,_,s,ai,QBZ ss ws ad,ab,key 0 _ (by omega) rfl,key 1 _ (by omega) rfl,key 2 _ (by omega) rfl,key 3 _ (by omega) rfl,ag i s w aa hi⟩
def Qwt (H:Qa)(bs:List Int)(h:bs.length<1000):ZJ (H.push (.C (bys bs) 5)) (.S H.y bs.length bs.length) bs:=
 ⟨_,_,rfl,Lb _,N5 h (by decide),_,_,rfl,λ_=>⟨_,_,_,_,_,rfl,by rw[Qc,Lc rfl],λj aa=>by
  unfold bys;rw[LP,LD,La aa,LX,La aa];rfl⟩⟩
section
variable {T:Qa->Prop} {L:List Fm} {lof:Int->List Fm} (hP:QrH T) (hT:∀H H',H.Wf->T H->Ext H H'->T H') (hO:∀op H,T H->Qe Pg 36 [.Z op] H λu H'=>QaY H H' u (lof op)) (hR0:∀H,T H->Qe Pg 48 [] H λu H'=>QaY H H' u L) (hty:QhN 64) (hsl:∀f∈L,f.shapes.length=f.slots.length)
include hP hT hO hR0 hty hsl
def Qwu {bv:Value}{b:List Int}{o:Int}{ws:List (List UInt8)}{ac ad:Nat}{am:TypeId}{aD:Bool}(H:Qa)(ar:T H)(ag:ZJ H bv b)(av:b.length<=65536)(aC:∀z∈b,0<=z∧z<256)(ay:Qsk b.length o=0)
  (ai:((XA L b b.length 0).map (svP lof o)).map (·.tx)=ws) (ae:H.get ac=some (.cells (ws.map λw=>.string (mkS w)) am aD)):
  Qe Pg 19 [bv,.Z o,.S ac ws.length ad] H λu H'=>u=.bool true∧Ext H H':=by
 refine Qfw λaz=>?_;have au:=ag;obtain⟨aG,aH,rfl,_⟩:=au;simp only[GB,Qb,simprocAttr];refine(QeU hP hT hO hR0 hty hsl H ar ag av aC ay).w ?_;rintro _ H1 aJ aK ⟨v,rfl,ah,hx⟩;have aI:((XA L b b.length 0).map (svP lof o)).length<=65536:=by rw[Nn];have:=QnK L b b.length 0 (L7 _);omega
 generalize (XA L b b.length 0).map (svP lof o)=W at *;obtain⟨ak,al,rfl⟩:=ah.slc;have aB:ws.length=W.length:=by rw[<- ai,Nn]
 have aE:((0:Int)==0)=true:=rfl;have zl:((W.length:Int)==(ws.length:Int))=true:=by rw[aB];exact LO _
 have ap:=(hx.get _ (az.lt ae)).trans ae;simp only[Qb,simprocAttr,aE,zl,JN];refine Qp (λm A' H'=>∃i:Nat,i<=W.length∧m=W.length - i∧H'=H1∧A' 2=.S ac ws.length ad∧A' 7=.slice ak W.length al∧A' 9=.Z i) W.length ?_ ?_
 ·refine⟨0,L7 _,by omega,rfl,?_,?_,?_⟩
  all_goals simp only[Qf,simprocAttr]
  all_goals rfl
 rintro m A' H' ⟨i,hi,rfl,rfl,r2,ab,aj⟩;simp only[JM,Qb,simprocAttr,ab,aj];refine Qg (λaa=>?_) (λaa=>?_)
 ·have aa:i<W.length:=by have:=Lg aa;omega
  obtain⟨aF,rfl,C,s,ao,aq⟩:=ah.at (La aa);have d1:(0:Int)<=i∧(i:Int)<W.length:=by omega
  have d2:(0:Int)<=i∧(i:Int)<ws.length:=by omega
  have d3:(i:Int).toNat=i:=by omega
  have an:IntKind.i64.wrap ((i:Int)+1)=((i+1:Nat):Int):=by rw[w64 (by unfold I64;omega)];omega
  have aA:(ws.map λw=>Value.string (mkS w))[i]? = some (.string (mkS W[i].tx)):=by rw[LD,<- ai,LD,La aa];rfl
  have ax:=aq.c2;have b1:(bl (mkS W[i].tx)==bl (mkS W[i].tx))=true:=LO _;generalize W[i]=w at *;simp only[JL,Qb,simprocAttr,r2,ab,aj,d1,d2,d3,ao,ax,ap,aA,b1,an];refine⟨W.length - (i+1),by omega,i+1,by omega,rfl,rfl,?_,?_,?_⟩
  all_goals simp only[Qf,simprocAttr,r2,ab]
 simp only[Qb,simprocAttr,QeH];exact .mk hx.y ⟨rfl,hx⟩
end
structure QKG (L:List Fm) (lof:Int->List Fm):Prop where
 src:QIp L lof [235,254] 0=[111,114,103,32,48,120,48,10,106,109,112,32,115,104,111,114,116,32,48,120,48,10]
 len:∀p∈XA L [235,254] 2 0,(svP lof 0 p).tx.length<=100000
 tx:((XA L [144,6,131,192,5] 5 0).map (svP lof 256)).map (·.tx)=[[110,111,112],[100,98,32,48,120,54],[97,100,100,32,101,97,120,44,32,48,120,53]]
 pln:(XA L [144,6] 2 0).all (okP lof)=true
section
variable {T:Qa->Prop} {L:List Fm} {lof:Int->List Fm} (hP:QrH T) (hT:∀H H',H.Wf->T H->Ext H H'->T H') (hO:∀op H,T H->Qe Pg 36 [.Z op] H λu H'=>QaY H H' u (lof op)) (hR0:∀H,T H->Qe Pg 48 [] H λu H'=>QaY H H' u L) (hty:QhN 64) (hsl:∀f∈L,f.shapes.length=f.slots.length) (hA:QKG L lof)
include hP hT hO hR0 hty hsl hA
def QyR (H:Qa)(ab:T H):Qe Pg 9 [] H λu H'=>u=.bool true∧Ext H H':=by
 refine QgC λaa=>?_;have e0:H.push (.C [.int .u8 235,.int .u8 254] 5)=H.push (.C (bys [235,254]) 5):=rfl;simp only[Vf,Qb,simprocAttr,e0];clear e0;have ao:=Qwt H [235,254] (by decide);have ah:=(Ext.refl H).push (.C (bys [235,254]) 5);have aI:=aa.push (.C (bys [235,254]) 5);generalize H.push (.C (bys [235,254]) 5)=H0 at *;refine(QsT hP hT hO hR0 hty hsl (o:=0) H0 (hT _ _ aa ab ah) ao (by decide) (by intro z ad;simp only[LK,Ns,NN]at ad;omega) rfl (by unfold I64;omega) hA.len).w ?_;rintro _ H1 aF au ⟨rfl,ay⟩;rw[hA.src];have az:=ah.trans ay;have e1:H1.push (.C [.int .u8 144,.int .u8 6,.int .u8 131,.int .u8 192,.int .u8 5] 5)=H1.push (.C (bys [144,6,131,192,5]) 5):=rfl;simp only[Qb,simprocAttr,e1,QuM];clear e1;have ae:=Qwt H1 [144,6,131,192,5] (by decide);have aA:=(Ext.refl H1).push (.C (bys [144,6,131,192,5]) 5);have av:=au.push (.C (bys [144,6,131,192,5]) 5);have aq:(H1.push (.C (bys [144,6,131,192,5]) 5)).y=H1.y+1:=rfl;generalize H1.push (.C (bys [144,6,131,192,5]) 5)=H2 at *;rw[<- aq];have ag:=ae.ext av ((Ext.refl H2).push (.C ([[110,111,112],[100,98,32,48,120,54],[97,100,100,32,101,97,120,44,32,48,120,53]].map λw=>.string (mkS w)) 9));have ai:=(Ext.refl H2).push (.C ([[110,111,112],[100,98,32,48,120,54],[97,100,100,32,101,97,120,44,32,48,120,53]].map λw=>.string (mkS w)) 9);have g3:(H2.push (.C ([[110,111,112],[100,98,32,48,120,54],[97,100,100,32,101,97,120,44,32,48,120,53]].map λw=>.string (mkS w)) 9)).get H2.y=some (.C ([[110,111,112],[100,98,32,48,120,54],[97,100,100,32,101,97,120,44,32,48,120,53]].map λw=>.string (mkS w)) 9):=by rw[Qc,Lc rfl]
 have ac:=(az.trans aA).trans ai;refine(Qwu hP hT hO hR0 hty hsl (o:=256) (H2.push (.C ([[110,111,112],[100,98,32,48,120,54],[97,100,100,32,101,97,120,44,32,48,120,53]].map λw=>.string (mkS w)) 9)) (hT _ _ aa ab ac) ag (by decide) (by intro z ad;simp only[LK,Ns,NN]at ad;omega) rfl hA.tx g3).w ?_;rintro _ H4 aG ax ⟨rfl,aj⟩;have ak:=ac.trans aj;clear g3 ag ae ai aj ac;have aD:((0:Int)==0)=true:=rfl;have aE:(bl (mkS [111,114,103,32,48,120,48,10,106,109,112,32,115,104,111,114,116,32,48,120,48,10])==bl (mkS [111,114,103,32,48,120,48,10,106,109,112,32,115,104,111,114,116,32,48,120,48,10]))=true:=LO _;have an:H4.push (.C [.int .u8 144,.int .u8 6] 5)=H4.push (.C (bys [144,6]) 5):=rfl;simp only[Qb,simprocAttr,aD,aE,an];have ap:=Qwt H4 [144,6] (by decide);have al:=(Ext.refl H4).push (.C (bys [144,6]) 5);have aJ:=ax.push (.C (bys [144,6]) 5);generalize H4.push (.C (bys [144,6]) 5)=H5 at *;refine(QtX hT hO hR0 hty hsl H5 (hT _ _ aa ab (ak.trans al)) ap (by decide)).w ?_;rintro aC H6 aH aK ⟨ar,aB⟩;obtain rfl:aC=.bool true:=ar.trans (congrArg Value.bool hA.pln);have am:=(ak.trans al).trans aB;simp only[Qb,simprocAttr,Qfr];exact .mk am.y ⟨rfl,am⟩
end
def QNa {bv:Value}{b:List Int}{o:Int}(H:Qa)(aa:ZJ H bv b)(ac:(Qsk b.length o==0)=false):
  Qe Pg 6 [bv,.Z o] H λu H'=>u=.tuple #[.slice none 0 0,.Z (Qsk b.length o)]∧H'=H:=by
 refine Qr0 λad=>?_;have ab:=aa;obtain⟨ae,ag,rfl,_⟩:=ab;simp only[QiK,Qb,simprocAttr];refine(QkX _ b o H aa).w ?_;rintro _ H _ ad ⟨rfl,rfl⟩;simp only[Qb,simprocAttr,ac,Qqa];exact .mk (Lb _) ⟨rfl,rfl⟩
structure QOQ (L:List Fm) (lof:Int->List Fm):Prop where
 aw:QKG L lof
 at_:((XA L [144,6,131,192,5] 5 0).map (svP lof 256)).map (λw=>(w.at_,w.is))=[(256,true),(257,false),(258,true)]
 p1:(XA L [64,144] 2 0).all (okP lof)=false
 p2:(XA L [129,192,5,0,0,0] 6 0).all (okP lof)=false
def QOR (H:Qa):ZJ H (.slice none 0 0) []:=⟨none,0,rfl,Lb _,by decide,none,0,rfl,λh=>absurd h (NX 0)⟩
section
variable {T:Qa->Prop} {L:List Fm} {lof:Int->List Fm} (hP:QrH T) (hT:∀H H',H.Wf->T H->Ext H H'->T H') (hO:∀op H,T H->Qe Pg 36 [.Z op] H λu H'=>QaY H H' u (lof op)) (hR0:∀H,T H->Qe Pg 48 [] H λu H'=>QaY H H' u L) (hty:QhN 64) (hsl:∀f∈L,f.shapes.length=f.slots.length) (hA:QOQ L lof)
include hP hT hO hR0 hty hsl hA
def QNA (H:Qa)(ad:T H):Qe Pg 5 [] H λu H'=>u=.bool true∧Ext H H':=by
 refine QM3 λaa=>?_;have e0:H.push (.C [.int .u8 144,.int .u8 6,.int .u8 131,.int .u8 192,.int .u8 5] 5)=H.push (.C (bys [144,6,131,192,5]) 5):=rfl;simp only[QMZ,Qb,simprocAttr,e0];clear e0;have aD:=Qwt H [144,6,131,192,5] (by decide);have ao:=(Ext.refl H).push (.C (bys [144,6,131,192,5]) 5);have bq:=aa.push (.C (bys [144,6,131,192,5]) 5);generalize H.push (.C (bys [144,6,131,192,5]) 5)=H0 at *;refine(QeU hP hT hO hR0 hty hsl (o:=256) H0 (hT _ _ aa ad ao) aD (by decide) (by intro z aP;simp only[LK,Ns,NN]at aP;omega) rfl).w ?_;rintro _ H1 bm an ⟨v,rfl,ab,aI⟩;have ap:=ao.trans aI;obtain⟨W,am⟩:∃W,W=(XA L [144,6,131,192,5] 5 0).map (svP lof 256):=⟨_,rfl⟩;have ag:=hA.at_;rw[<- am]at ag;have ab:Qb7 H0 H1 v W:=by rw[am];exact ab
 have aC:W.length=3:=by have:=congrArg List.length ag;simpa using this
 obtain⟨bg,bi,rfl⟩:=ab.slc;have g:∀ (i:Nat) (a:Int) (s:Bool),[((256:Int),true),(257,false),(258,true)][i]? = some (a,s)->∃w,W[i]? = some w∧w.at_=a∧w.is=s:=λi a s h=>by
  rw[<- ag,LD]at h;cases aa:W[i]? with
  | none=>rw[aa]at h;cases h
  | some w=>rw[aa]at h;cases h;exact⟨w,rfl,rfl,rfl⟩
 obtain⟨bx,aQ,a0,aT⟩:=g 0 256 true rfl;obtain⟨bz,aR,a1,aU⟩:=g 1 257 false rfl;obtain⟨b2,aS,a2,aV⟩:=g 2 258 true rfl;obtain⟨bh,rfl,C,s,ae,aj⟩:=ab.at aQ;obtain⟨_,e1,C1,t1,ai,ak⟩:=ab.at aR;obtain⟨_,e2,C2,t2,ac,al⟩:=ab.at aS;cases e1;cases e2;rw[ae]at ai ac;cases ai;cases ac;have c0:C[0]? = some (.Z 256):=by rw[<- a0];exact aj.c0
 have c3:C[3]? = some (.bool true):=by rw[<- aT];exact aj.c3
 have ay:C[4]? = some (.Z 257):=by rw[<- a1];exact ak.c0
 have az:C[7]? = some (.bool false):=by rw[<- aU];exact ak.c3
 have aA:C[8]? = some (.Z 258):=by rw[<- a2];exact al.c0
 have ax:C[11]? = some (.bool true):=by rw[<- aV];exact al.c3
 simp only[Qb,simprocAttr];refine(QNa (o:=-1) H1 (QOR H1) rfl).w ?_;rintro _ H1 _ an ⟨rfl,rfl⟩;have bj:Qsk ([]:List Int).length (-1)=5:=rfl;have aY:((0:Int)==0)=true:=rfl;have aZ:(((W.length:Nat):Int)==3)=true:=by rw[aC];rfl
 have ba:((256:Int)==256)=true:=rfl;have bc:((257:Int)==257)=true:=rfl;have bd:((258:Int)==258)=true:=rfl;have b3:((5:Int)==5)=true:=rfl;simp only[Qb,simprocAttr,aY,aZ,QMW];refine(QyR hP hT hO hR0 hty hsl hA.aw H1 (hT _ _ aa ad ap)).w ?_;rintro _ H2 bn aG ⟨rfl,aq⟩;have aJ:=ap.trans aq;have ac:=(aq.get _ (an.lt ae)).trans ae;have e3:H2.push (.C [.int .u8 64,.int .u8 144] 5)=H2.push (.C (bys [64,144]) 5):=rfl;have d0:(0:Int)<=0∧(0:Int)<W.length:=by omega
 have d1:(0:Int)<=1∧(1:Int)<W.length:=by omega
 have d2:(0:Int)<=2∧(2:Int)<W.length:=by omega
 have aE:=Qwt H2 [64,144] (by decide);simp only[Qb,simprocAttr,d0,d1,d2,ac,c0,c3,ay,az,aA,ax,ba,bc,bd,e3,Int.toNat_zero,Int.toNat_one];have aK:=(Ext.refl H2).push (.C (bys [64,144]) 5);have br:=aG.push (.C (bys [64,144]) 5);generalize H2.push (.C (bys [64,144]) 5)=H3 at *;have ar:=aJ.trans aK;refine(QtX hT hO hR0 hty hsl H3 (hT _ _ aa ad ar) aE (by decide)).w ?_;rintro aW H4 bo aH ⟨ah,aL⟩;obtain rfl:aW=.bool false:=ah.trans (congrArg Value.bool hA.p1);have aM:=ar.trans aL;have aB:H4.push (.C [.int .u8 129,.int .u8 192,.int .u8 5,.int .u8 0,.int .u8 0,.int .u8 0] 5)=H4.push (.C (bys [129,192,5,0,0,0]) 5):=rfl;have aF:=Qwt H4 [129,192,5,0,0,0] (by decide);simp only[Qb,simprocAttr,aB];have aN:=(Ext.refl H4).push (.C (bys [129,192,5,0,0,0]) 5);have bu:=aH.push (.C (bys [129,192,5,0,0,0]) 5);generalize H4.push (.C (bys [129,192,5,0,0,0]) 5)=H5 at *;have au:=aM.trans aN;refine(QtX hT hO hR0 hty hsl H5 (hT _ _ aa ad au) aF (by decide)).w ?_;rintro aX H6 bp bw ⟨ah,aO⟩;obtain rfl:aX=.bool false:=ah.trans (congrArg Value.bool hA.p2);have av:=au.trans aO;simp only[Qb,simprocAttr,QM0];exact .mk av.y ⟨rfl,av⟩
end
def Pc.up (k:Nat)(p:Pc):Pc:={p with at_:=k+p.at_}
def QsV (L:List Fm)(b:List Int):∀ (n m a:Nat),b.length<=a+n->b.length<=a+m->XA L b n a=XA L b m a
 | 0,0,a,_,_=>rfl
 | 0,m+1,a,h,_=>by show[]=(if a<b.length then _ else _);rw[Le (by omega)]
 | n+1,0,a,_,h=>by show(if a<b.length then _ else _)=[];rw[Le (by omega)]
 | n+1,m+1,a,h,h'=>by
  show(if a<b.length then _ else _)=(if a<b.length then _ else _)
  by_cases aa:a<b.length;·rw[Lc aa,Lc aa];have:=(@Qga L b a aa).1;rw[QsV L b n m (a+(Y2 L b a).bs.length) (by omega) (by omega)]
  rw[Le aa,Le aa]
def QFZ (L:List Fm)(b:List Int)(a:Nat):(Y2 L b a).at_=a:=by
 unfold Y2;split<;>rfl
def QIt (v u:Value)(l m:List Int)(H:Qa)(ad:∃a c,v=.slice a l.length c∧WB 1 v H=some (bys l))(ac:∃a c,u=.slice a m.length c∧WB 1 u H=some (bys m)):Qe Pg 7 [v,u] H λx H'=>x=.bool (QeQ l m)∧H'=H:=by
 refine QeG λae=>?_;obtain⟨a,c,rfl,aa⟩:=ad;obtain⟨a2,c2,rfl,ab⟩:=ac;simp only[Kx,Qb,simprocAttr];rw[Qfa (a:=a) (n:=l.length) (c:=c) (by kernel_rfl) (by simp only[Qf,simprocAttr]) aa (Qdl l)];simp only[Qb,simprocAttr];rw[Qfa (a:=a2) (n:=m.length) (c:=c2) (by kernel_rfl) (by simp only[Qf,simprocAttr]) ab (Qdl m)];simp only[Qb,simprocAttr,Qdx];exact .mk (Lb _) ⟨by rw[Xh,Xh];rfl,rfl⟩
def QyU (l:List Int):QeQ l l=true:=LO _
def ZJ.from {H:Qa}{v:Value}{bs:List Int}(h:ZJ H v bs){p:Nat}(ac:p<=bs.length):∃w,Y3 1 v (some (p:Int)) none none=some w∧ZJ H w (bs.drop p):=by
 obtain⟨w,aa,ab⟩:=h.sub (p:=p) (n:=bs.length - p) (by omega);rw[LF (by rw[NT];omega)]at ab;refine⟨w,?_,ab⟩;obtain⟨a,cap,rfl,_⟩:=h;rw[show p+(bs.length - p)=bs.length by omega]at aa;rw[<- aa];cases a<;>rfl
section
variable {T:Qa->Prop} {L:List Fm} {lof:Int->List Fm} (hP:QrH T) (hT:∀H H',H.Wf->T H->Ext H H'->T H') (hO:∀op H,T H->Qe Pg 36 [.Z op] H λu H'=>QaY H H' u (lof op)) (hR0:∀H,T H->Qe Pg 48 [] H λu H'=>QaY H H' u L) (hty:QhN 64) (hsl:∀f∈L,f.shapes.length=f.slots.length) (hA:QKG L lof)
include hP hT hO hR0 hty hsl hA
end
