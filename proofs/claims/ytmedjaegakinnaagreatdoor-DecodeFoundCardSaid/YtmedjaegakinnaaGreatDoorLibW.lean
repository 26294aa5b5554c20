/- Bytes that begin anywhere, of a known capacity; the text of bytes. -/
import Derived.Test.YtmedjaegakinnaaGreatDoorLibR
import Derived.Test.YtmedjaegakinnaaGreatDoorLibB
import Derived.Test.YtmedjaegakinnaaGreatDoorLibI
import Derived.Test.YtmedjaegakinnaaGreatDoorAbD
import Derived.Test.YtmedjaegakinnaaGreatDoorLibA
import Derived.Test.YtmedjaegakinnaaGreatDoorC6Law
import Derived.Test.YtmedjaegakinnaaGreatDoorC6One
import Derived.Test.YtmedjaegakinnaaGreatDoorLibK
import Derived.Test.YtmedjaegakinnaaGreatDoorLibC
set_option linter.unusedVariables false
set_option linter.unusedSimpArgs false
set_option maxRecDepth 100000
set_option maxHeartbeats 4000000
namespace Go.Proofs.YtmedjaegakinnaaGreatDoor.code
open Go.Ab
def QeL (H:Qa)(v:Value)(bs:List Int):Prop:=∃a cap,v=.slice a bs.length cap∧bs.length<=cap∧cap<UNK∧Qf4 H v bs
theorem QeL.ext {H H':Qa}{v:Value}{bs:List Int}(ae:H.Wf)(ad:Ext H H')(h:QeL H v bs):QeL H' v bs:=by
 obtain⟨a,cap,q,aa,ab,ac⟩:=h;exact⟨a,cap,q,aa,ab,ac.ext ae ad⟩
theorem QCy {bs:List Int}{p n k:Nat}(h:k<n):((bs.drop p).take n).getD k 0=bs.getD (p+k) 0:=by
 rw[LX,LX,Nl,Lc h,Nk]
theorem QeL.sub {H:Qa}{v:Value}{bs:List Int}(h:QeL H v bs){p n:Nat}(ak:p+n<=bs.length):∃w,Yh 1 v (some (p:Int)) (some ((p+n:Nat):Int)) none=some w∧QeL H w ((bs.drop p).take n):=by
 have q:((bs.drop p).take n).length=n:=by rw[Sb,NT];omega
 obtain⟨a,cap,rfl,ai,aj,a0,c0,e,ab⟩:=h;cases e;cases a with
 | none=>
  have ah:bs.length=0:=by
   rcases B6 bs.length with h | h;·exact h
   obtain⟨_,_,_,_,_,h,_⟩:=ab h;cases h
  unfold Yh;simp only[NB,Br];rw[Lc (by omega)];refine⟨_,rfl,none,cap - p,by rw[q,show((p+n:Nat):Int).toNat - (p:Int).toNat=n by omega];simp,by omega,by omega,none,_,by rw[q,show((p+n:Nat):Int).toNat - (p:Int).toNat=n by omega],λh=>by rw[q]at h;omega⟩
 | some aa=>
  unfold Yh;simp only[NB,Br];rw[Le (by omega),Lc (by omega)];refine⟨.slice (some (if(cap:Int).toNat=(p:Int).toNat then aa else⟨aa.block,aa.off+(p:Int).toNat * 1,none⟩)) n (cap - p),by simp only[show((p+n:Nat):Int).toNat - (p:Int).toNat=n by omega,show(cap:Int).toNat - (p:Int).toNat=cap - p by omega],_,cap - p,by rw[q],by omega,by omega,_,_,by rw[q],λh=>?_⟩;rw[q]at h;obtain⟨b,o,e,ro,cs,ad,ag,ae⟩:=ab (by omega);cases ad;rw[Le (by omega)];refine⟨b,o+p,e,ro,cs,by simp,ag,λj ac=>?_⟩;rw[q]at ac;rw[QCy ac,Rh];exact ae (p+j) (by omega)
theorem QvB {cs:List Value}{o:Nat}{bs:List Int}(h:∀j,j<bs.length->cs[o+j]? = some (.int .u8 (bs.getD j 0))):(cs.drop o).take bs.length=bys bs:=by
 refine BA λi=>?_;unfold bys;rw[Nl,LD];split;·rename_i hi;rw[Nk,h i hi,LX,La hi];rfl
 rename_i hi;rw[N7 (by omega)];rfl
theorem Qzb {cs:List Value}{o:Nat}{bs:List Int}(q:0<bs.length)(h:∀j,j<bs.length->cs[o+j]? = some (.int .u8 (bs.getD j 0))):o+bs.length<=cs.length:=by
 have:=(Lk.1 (h (bs.length - 1) (by omega))).1;omega
theorem QeL.src {H:Qa}{v:Value}{bs:List Int}(h:QeL H v bs):Zx 1 v H=some (bs.length,bys bs):=by
 obtain⟨a,cap,rfl,_,_,_,_,e,ab⟩:=h;cases e
 by_cases aa:bs.length=0;·have:bs=[]:=N2.1 aa;subst this;cases a<;>simp[Zx,bys]
 obtain⟨b,o,e,ro,cs,rfl,ac,q⟩:=ab (by omega);have ad:=Qzb (by omega) q;rw[Gg ac (by omega) (by omega),NH,QvB q]
theorem QeL.cells {H:Qa}{v:Value}{bs:List Int}(h:QeL H v bs):∃a c,v=.slice a bs.length c∧XA 1 v H=some (bys bs):=by
 obtain⟨a,cap,rfl,_,_,_,_,e,ab⟩:=h;cases e;refine⟨_,_,rfl,?_⟩
 by_cases aa:bs.length=0;·have:bs=[]:=N2.1 aa;subst this;cases a<;>simp[XA,bys]
 obtain⟨b,o,e,ro,cs,rfl,ac,q⟩:=ab (by omega);have ad:=Qzb (by omega) q;simp only[XA,ac];rw[Le (by omega),Lc (by omega),NH,QvB q]
def txB (l:List Int):List UInt8:=l.map λz=>z.toNat.toUInt8
theorem QjJ:∀l:List Int,Kx (bys l)=some (txB l)
 | []=>rfl
 | z::l=>by
  have:=QjJ l;unfold bys txB at *;simp only[NZ,Kx,this];rfl
def Qg9 (l m:List Int):Bool:=txB l==txB m
theorem Gx.cellsB {H0 H:Qa}{v:Value}{l:List Int}(h:Gx 1 5 H0 H v l.length (bys l)):∃a c,v=.slice a l.length c∧XA 1 v H=some (bys l):=by
 rcases h with⟨rfl,h,_⟩ | ⟨b,c,rfl,_,aa,_⟩;·have:l=[]:=N2.1 h;subst this;exact⟨none,0,rfl,rfl⟩
 refine⟨_,_,rfl,?_⟩
 by_cases q:l.length=0;·have:l=[]:=N2.1 q;subst this;simp[XA,bys]
 have ab:=Yn l;simp only[XA,q,LN,aa];rw[Lc (by omega),Lw,LF (by omega)]
theorem Gx.bsB {H0 H:Qa}{v:Value}{l:List Int}(h:Gx 1 5 H0 H v l.length (bys l)):Qli H v l:=by
 rcases h with⟨rfl,h,_⟩ | ⟨b,c,rfl,_,aa,_⟩;·exact⟨none,0,by rw[h],λq=>by omega⟩
 refine⟨_,_,rfl,λq=>⟨b,0,_,_,_,rfl,aa,λi hi=>?_⟩⟩;unfold bys;rw[LP,LD,La hi,LX,La hi];rfl
theorem QeL.bs {H:Qa}{v:Value}{bs:List Int}(h:QeL H v bs):Qli H v bs:=by
 obtain⟨a,cap,rfl,_,_,a0,c0,e,ab⟩:=h;cases e;refine⟨_,_,rfl,λaa=>?_⟩;obtain⟨b,o,e,ro,cs,q,ad,ac⟩:=ab aa;exact⟨b,o,_,_,_,q,ad,ac⟩
theorem QeL.fst {H:Qa}{v:Value}{bs:List Int}(h:QeL H v bs){n:Nat}(ab:n<=bs.length):∃w,Yh 1 v none (some (n:Int)) none=some w∧QeL H w (bs.take n):=by
 obtain⟨w,aa,q⟩:=h.sub (p:=0) (n:=n) (by omega);refine⟨w,?_,by rw[Lw]at q;exact q⟩;obtain⟨a,cap,rfl,_⟩:=h;rw[<- aa,LP];cases a<;>rfl
theorem Gx.fst {H0 H:Qa}{v:Value}{l:List Int}(h:Gx 1 5 H0 H v l.length (bys l)){n:Nat}(ag:n<=l.length)(ae:l.length<UNK):∃w,Yh 1 v none (some (n:Int)) none=some w∧Qli H w (l.take n):=by
 have q:(l.take n).length=n:=by rw[Sb];omega
 have key:∀ (b o:Nat),H.get b=some (.C (bys l) 5)->∀i,i<(l.take n).length->(bys l)[0+i]? = some (.int .u8 ((l.take n).getD i 0)):=λb o _ i hi=>by
  rw[q]at hi;unfold bys;rw[LP,LD,La (by omega),LX,Nl,Lc hi,La (by omega)];rfl
 rcases h with⟨rfl,h,_⟩ | ⟨b,c,rfl,_,aa,_,ab⟩
 ·have ac:n=0:=by omega
  subst ac;exact⟨.slice none 0 0,rfl,none,0,by rw[q],λh=>by rw[q]at h;omega⟩
 unfold Yh;simp only[Br,NB];rcases ab with rfl | ⟨rfl,ab⟩;·rw[Le (by omega),Lc (by omega)];refine⟨_,rfl,_,_,by rw[q,LG];rfl,λh=>?_⟩;rw[q]at h;have ad:=Yn l;refine⟨b,0,_,_,_,?_,aa,key b 0 aa⟩;rw[Int.toNat_zero,BH];split<;>rfl
 rw[Lc (by omega),Lc (by omega)];exact⟨_,rfl,_,_,by rw[q,LG];rfl,λh=>⟨b,0,_,_,_,rfl,aa,key b 0 aa⟩⟩
theorem QFq (v u:Value)(l m:List Int)(H:Qa)(ad:∃a c,v=.slice a l.length c∧XA 1 v H=some (bys l))(ac:∃a c,u=.slice a m.length c∧XA 1 u H=some (bys m)):Qe Pg 12 [v,u] H λx H'=>x=.bool (Qg9 l m)∧H'=H:=by
 refine Qc8 λae=>?_;obtain⟨a,c,rfl,aa⟩:=ad;obtain⟨a2,q,rfl,ab⟩:=ac;simp only[Kq,Qb,simprocAttr];rw[Qsm (a:=a) (n:=l.length) (c:=c) (by kernel_rfl) (by simp only[Qd,simprocAttr]) aa (QjJ l)];simp only[Qb,simprocAttr];rw[Qsm (a:=a2) (n:=m.length) (c:=q) (by kernel_rfl) (by simp only[Qd,simprocAttr]) ab (QjJ m)];simp only[Qb,simprocAttr,Qb5];exact .mk (Lb _) ⟨by rw[QcX,QcX];rfl,rfl⟩
theorem QxT (l:List Int):Qg9 l l=true:=LO _
theorem QvF (v:Value)(bs:List Int)(H:Qa)(ag:Zx 1 v H=some (bs.length,bys bs))(ad:∀H',H.Wf->Ext H H'->Zx 1 v H'=some (bs.length,bys bs))(ae:bs.length<=1000000):Qe Pg 7 [v] H λu H'=>Gx 1 5 H H' u bs.length (bys bs)∧Ext H H':=by
 refine Qc7 λab=>?_;simp only[Ko,Qb,simprocAttr];have ac:Ext H (H.push (.C [] 5)):=(Ext.refl H).push _;refine V6 (H0:=H) (n:=0) (cs:=[]) (.inr ⟨H.y,0,rfl,Lb _,by rw[Qc,Lc rfl],rfl,.inl rfl⟩) ac (ab.push _) (ad _ ab ac) (Vu _) (by rw[Yn,NH]) (by omega) (by omega) λu H' q aa=>?_;simp only[Qb,simprocAttr,Qb4];rw[LP]at q;exact .mk aa.x.y ⟨q,aa.x⟩
theorem QjS {P:Program}{f:Nat}{t:TypeId}{q:Array Field}{xs ys:Array Value}(h:P.underlying t=some (.struct q))(aa:P.stoodInHeld t=false):aeq P (f+1) t (.agg xs) (.agg ys)=WZ P (aeq P f) q.toList xs ys:=by
 unfold aeq;rw[h];simp[aa]
theorem QeX {P:Program}{f:Nat}{t:TypeId}{k:IntKind}{a b:Int}(h:P.underlying t=some (.int k)):aeq P (f+1) t (.int k a) (.int k b)=some (a==b):=by
 unfold aeq;rw[h];simp
theorem YX {P:Program}{eq:TypeId->Value->Value->Option Bool}{fd:Field}{q:List Field}{xs ys:Array Value}{a b:Value}{r s:Bool}(ad:(fd.name == "_")=false)(aa:Gd P fd.type xs fd.offset=some a)(ab:Gd P fd.type ys fd.offset=some b)(ac:eq fd.type a b=some r)(ag:WZ P eq q xs ys=some s):
  WZ P eq (fd::q) xs ys=some (r&&s):=by
 have ae:¬fd.name = "_" := by simpa using ad
 show(if fd.name = "_" then WZ P eq q xs ys else match Gd P fd.type xs fd.offset,Gd P fd.type ys fd.offset with
  | some a,some b=>match eq fd.type a b with
   | some true=>WZ P eq q xs ys
   | r=>r
  | _,_=>none)=_
 rw[Le ae,aa,ab];simp only[ac];cases r;·rfl
 rw[ag];rfl
theorem Qqq {P:Program}{eq:TypeId->Value->Value->Option Bool}{xs ys:Array Value}:WZ P eq [] xs ys=some true:=rfl
theorem Qqr:Pg.underlying 3=some (.int .i64):=by kernel_rfl
theorem QIA:Pg.underlying 46=some (.struct #[⟨ "Class",3,0,false, "", "",0⟩,⟨ "N",3,1,false, "", "",8⟩]):=by kernel_rfl
theorem QIB:Pg.underlying 48=some (.struct #[⟨ "Base",46,0,false, "", "",0⟩,⟨ "Index",46,2,false, "", "",16⟩,⟨ "Scale",3,4,false, "", "",32⟩,⟨ "Disp",3,5,false, "", "",40⟩,⟨ "Size",3,6,false, "", "",48⟩]):=by kernel_rfl
theorem QIC:Pg.underlying 50=some (.struct #[⟨ "Kind",3,0,false, "", "",0⟩,⟨ "R",46,1,false, "", "",8⟩,⟨ "M",48,3,false, "", "",24⟩,⟨ "N",3,10,false, "", "",80⟩]):=by kernel_rfl
theorem QtN (f:Nat)(a b c d:Int):aeq Pg (f+2) 46 (.agg #[.Z a,.Z b]) (.agg #[.Z c,.Z d])=some ((a==c)&&((b==d)&&true)):=by
 rw[QjS QIA (by kernel_rfl)];exact YX (by rfl) (a:=.Z a) (b:=.Z c) (by kernel_rfl) (by kernel_rfl) (QeX Qqr) (YX (by rfl) (a:=.Z b) (b:=.Z d) (by kernel_rfl) (by kernel_rfl) (QeX Qqr) Qqq)
theorem QFX (f:Nat)(a1 a2 a3 a4 a5 a6 a7 b1 b2 b3 b4 b5 b6 q:Int):aeq Pg (f+3) 48 (.agg #[.Z a1,.Z a2,.Z a3,.Z a4,.Z a5,.Z a6,.Z a7]) (.agg #[.Z b1,.Z b2,.Z b3,.Z b4,.Z b5,.Z b6,.Z q]) =
  some (((a1==b1)&&((a2==b2)&&true))&&(((a3==b3)&&((a4==b4)&&true))&&((a5==b5)&&((a6==b6)&&((a7==q)&&true))))):=by
 rw[QjS QIB (by kernel_rfl)];exact YX (by rfl) (a:=.agg #[.Z a1,.Z a2]) (b:=.agg #[.Z b1,.Z b2]) (by kernel_rfl) (by kernel_rfl) (QtN f _ _ _ _)
  (YX (by rfl) (a:=.agg #[.Z a3,.Z a4]) (b:=.agg #[.Z b3,.Z b4]) (by kernel_rfl) (by kernel_rfl) (QtN f _ _ _ _)
  (YX (by rfl) (a:=.Z a5) (b:=.Z b5) (by kernel_rfl) (by kernel_rfl) (QeX Qqr)
  (YX (by rfl) (a:=.Z a6) (b:=.Z b6) (by kernel_rfl) (by kernel_rfl) (QeX Qqr)
  (YX (by rfl) (a:=.Z a7) (b:=.Z q) (by kernel_rfl) (by kernel_rfl) (QeX Qqr) Qqq))))
theorem QFY (f:Nat)(a b:Ar):aeq Pg (f+4) 50 (.agg a.cells.toArray) (.agg b.cells.toArray)=some (decide (a=b)):=by
 obtain⟨k,⟨am,ao⟩,⟨⟨q,ab⟩,⟨ah,iN⟩,sc,ad,sz⟩,n⟩:=a;obtain⟨aj,⟨an,ap⟩,⟨⟨aa,ac⟩,⟨ai,ag⟩,aq,ae,ar⟩,ak⟩:=b;have e:=QjS (f:=f+3) (xs:=#[.Z k,.Z am,.Z ao,.Z q,.Z ab,.Z ah,.Z iN,.Z sc,.Z ad,.Z sz,.Z n]) (ys:=#[.Z aj,.Z an,.Z ap,.Z aa,.Z ac,.Z ai,.Z ag,.Z aq,.Z ae,.Z ar,.Z ak]) QIC (by kernel_rfl)
 have e2:=YX (P:=Pg) (eq:=aeq Pg (f+3)) (fd:=⟨ "Kind",3,0,false, "", "",0⟩) (by rfl) (a:=.Z k) (b:=.Z aj) (xs:=#[.Z k,.Z am,.Z ao,.Z q,.Z ab,.Z ah,.Z iN,.Z sc,.Z ad,.Z sz,.Z n]) (ys:=#[.Z aj,.Z an,.Z ap,.Z aa,.Z ac,.Z ai,.Z ag,.Z aq,.Z ae,.Z ar,.Z ak]) (by kernel_rfl) (by kernel_rfl) (QeX Qqr)
  (YX (fd:=⟨ "R",46,1,false, "", "",8⟩) (by rfl) (a:=.agg #[.Z am,.Z ao]) (b:=.agg #[.Z an,.Z ap]) (by kernel_rfl) (by kernel_rfl) (QtN (f+1) _ _ _ _)
  (YX (fd:=⟨ "M",48,3,false, "", "",24⟩) (by rfl) (a:=.agg #[.Z q,.Z ab,.Z ah,.Z iN,.Z sc,.Z ad,.Z sz]) (b:=.agg #[.Z aa,.Z ac,.Z ai,.Z ag,.Z aq,.Z ae,.Z ar]) (by kernel_rfl) (by kernel_rfl) (QFX f _ _ _ _ _ _ _ _ _ _ _ _ _ _)
  (YX (fd:=⟨ "N",3,10,false, "", "",80⟩) (by rfl) (a:=.Z n) (b:=.Z ak) (by kernel_rfl) (by kernel_rfl) (QeX Qqr) Qqq)))
 refine(e.trans e2).trans ?_;congr 1;rw[Ni];simp[and_assoc]
theorem QID {A:Env}{H:Qa}{k:Value->Qa->Prop}{x y:Operand}{q:TypeId}(a b:Ar)(aa:(QhR x||QhR y)=false)(hx:ev A x=.agg a.cells.toArray)(ac:ev A y=.agg b.cells.toArray):
  pr Pg (.gen (.binOp .neq 50 x y q)) false A H k=k (.bool (!decide (a=b))) H:=by
 have ab:ZH Pg false 50 (.agg a.cells.toArray) (.agg b.cells.toArray)=true:=by
  have h:Pg.eqGuardType Pg.depth 50=false:=by kernel_rfl
  simp[ZH,Qj5,QuS,h]
 have e:rop Pg (.gen (.binOp .neq 50 x y q)) A H=some (.bool (!decide (a=b)),H):=by
  simp only[rop,aop,Qeu,Qu1,hx,ac,aa,Qo3,VS,ab,Bj,N3,QFY 16];rfl
 refine(We _).trans ?_;rw[e,Qs]
theorem Qyd (va vb:Value)(xs ys:List Ar)(H:Qa)(az:Wg H va xs)(aA:Wg H vb ys)(aJ:xs.length<=1000000)(aK:ys.length<=1000000):Qe Pg 21 [va,vb] H λu H'=>u=.bool (decide (xs=ys))∧H'=H:=by
 refine Qeb λaL=>?_;obtain⟨ai,aj,rfl,aE⟩:=az;obtain⟨ak,am,rfl,aF⟩:=aA;simp only[K7,Qb,simprocAttr]
 by_cases ah:xs.length=ys.length
 ·have e0:((xs.length:Int)==(ys.length:Int))=true:=by simp[ah]
  simp only[e0,Qb,simprocAttr];refine Qu (λm A' H'=>∃i:Nat,i<=xs.length∧m=xs.length - i∧H'=H∧(∀j,j<i->xs[j]? = ys[j]?)∧A' 0=.slice ai xs.length aj∧A' 1=.slice ak ys.length am∧A' 5=.Z i) xs.length ?_ ?_
  ·refine⟨0,L7 _,by omega,rfl,λj h=>by omega,?_,?_,?_⟩
   all_goals simp only[uxA,uxB,Nat.reduceBEq]
   rfl
  rintro m A' H' ⟨i,hi,rfl,ay,ag,ad,r1,ae⟩;subst ay;simp only[Qb,simprocAttr,ad,r1,ae];refine Qg (λq=>?_) (λq=>?_)
  ·have q:i<xs.length:=by have:=Lg q;omega
   obtain⟨b1,e1,aM,rfl,aB⟩:=aE (by omega);obtain⟨b2,e2,aN,rfl,aC⟩:=aF (by omega);have an:(0:Int)<=i∧(i:Int)<xs.length:=by omega
   have ao:(0:Int)<=i∧(i:Int)<ys.length:=by omega
   have ap:(i:Int).toNat=i:=by omega
   have aq:i * 11+11<=xs.length * 11:=by omega
   have ar:i * 11+11<=ys.length * 11:=by omega
   have au:IntKind.i64.wrap ((i:Int)+1)=((i+1:Nat):Int):=by rw[w64 (by unfold I64;omega)];omega
   have aw:i<ys.length:=by omega
   have ab:=La q;have ac:=La aw;have d1:=XU xs i _ ab;have d2:=XU ys i _ ac;have aG:=Wb xs;have aH:=Wb ys;generalize xs[i]=x at *;generalize ys[i]=y at *;have a1:(x.cells.all λv=>v.oneCell')=true:=rfl;have a2:(y.cells.all λv=>v.oneCell')=true:=rfl;simp only[Qb,simprocAttr,ad,r1,ae,an,ao,ap,aq,ar,aB,aC,d1,d2,aG,aH,a1,a2,Wq];rw[QID x y rfl (by simp only[Qd,simprocAttr]) (by simp only[Qd,simprocAttr])]
   by_cases aa:x=y
   ·have e3:decide (x=y)=true:=Lp aa;simp only[Qb,simprocAttr,e3,ae,au];refine⟨xs.length - (i+1),by omega,i+1,by omega,rfl,rfl,λj aI=>?_,?_,?_,?_⟩
    ·rcases Nq j i with h | h;·exact ag j h
     rw[show j=i by omega,ab,ac,aa]
    all_goals simp only[Qd,simprocAttr,ad,r1]
   have e3:decide (x=y)=false:=Lj aa;simp only[Qb,simprocAttr,e3,YC];have ax:xs≠ys:=λh=>by
    rw[h,ac]at ab;exact aa (Ly ab).symm
   exact .mk (Lb _) ⟨by rw[Lj ax],rfl⟩
  have q:i=xs.length:=by have:=Ll q;omega
  subst q;simp only[Qb,simprocAttr,YC];have aD:xs=ys:=by
   refine BA λi=>?_
   by_cases av:i<xs.length;·exact ag i av
   rw[N7 (by omega),N7 (by omega)]
  exact .mk (Lb _) ⟨by rw[Lp aD],rfl⟩
 have e0:((xs.length:Int)==(ys.length:Int))=false:=by simp;omega
 simp only[e0,Qb,simprocAttr,YC];exact .mk (Lb _) ⟨by rw[Lj (λh=>ah (by rw[h]))],rfl⟩
theorem QeY (o p:Int)(va vb:Value)(xs ys:List Ar)(H:Qa)(ab:Wg H va xs)(ac:Wg H vb ys)(ag:xs.length<=1000000)(ah:ys.length<=1000000):Qe Pg 9 [.agg #[.Z o,va],.agg #[.Z p,vb]] H λu H'=>u=.bool ((o==p)&&decide (xs=ys))∧∃k,H'=H.up k:=by
 refine Qea λaa=>?_;have hx:Ext H ((H.push (.C [.Z o,va] 26)).push (.C [.Z p,vb] 26)):=((Ext.refl H).push _).push _;have ad:=ab.ext aa hx;have ae:=ac.ext aa hx;have q:=Qyd va vb xs ys _ ad ae ag ah;obtain⟨ai,aj,rfl,ap⟩:=ab;obtain⟨ak,am,rfl,aq⟩:=ac;simp only[K6,Qb,simprocAttr,Xq];cases an:o==p;·simp only[Qb,simprocAttr,Xq];exact .ext aa hx ⟨rfl,_,rfl⟩
 simp only[Qb,simprocAttr,Xq];refine q.w ?_;rintro _ _ ao ar ⟨rfl,rfl⟩;simp only[Qb,simprocAttr,Xq];exact .ext aa hx ⟨by simp,_,rfl⟩
def GO (r:Dr)(e:Int):Bool:=(r.e==e)&&(r.n==0)&&(r.op==0)&&((r.l.length:Int)==0)
def isF (r:Dr)(op n:Int)(l:List Ar):Bool:=(r.e==0)&&(r.n==n)&&((r.op==op)&&decide (r.l=l))
theorem QjT (k e:Int):GO (Y0 k) e=(k==e):=by
 unfold GO Y0;simp
theorem QtO (L:List Fm)(bs:List Int):(dcd L bs).l.length<=1000000:=by
 rcases QtM (w:=bs) (Q7 bs true 0 L) 4 (.inl rfl) with⟨_,f,_,_,h⟩ | ⟨h | h,_⟩;·show(QaK bs (Q7 bs true 0 L) 4).l.length<=_;rw[h];have:=QsA bs f;omega
 ·show(QaK bs (Q7 bs true 0 L) 4).l.length<=_;rw[h];decide
 show(QaK bs (Q7 bs true 0 L) 4).l.length<=_;rw[h];decide
section
variable {T:Qa->Prop} {L:List Fm} (hT:∀H H',H.Wf->T H->Ext H H'->T H') (hR:∀H,T H->Qe Pg 32 [] H λu H'=>QdY H H' u L) (hty:QiN 81) (hsl:∀f∈L,f.shapes.length=f.slots.length)
include hT hR hty hsl
theorem QoJ (e:Int)(va:Value)(bs:List Int)(H:Qa)(ae:T H)(ag:Qli H va bs)(ah:bs.length<=100000):Qe Pg 8 [.Z e,va] H λu H'=>u=.bool (GO (dcd L bs) e)∧Ext H H':=by
 refine QeN λao=>?_;simp only[GL,Qb,simprocAttr];refine(KG hR hty (λf ai=>hsl f (X0 f bs true 0 L ai)) va hT H ae ag ah).w ?_;rintro _ H1 an ap ⟨ac,v,rfl,ab,aj⟩;clear aj;have ad:QaK bs (Q7 bs true 0 L) 4=dcd L bs:=rfl;rw[ad]at ab ⊢;obtain⟨a,c,rfl,_⟩:=id ab;generalize dcd L bs=r at *;simp only[Qb,simprocAttr];have q:Ext H1 ((H1.push (.C [.Z 0,.slice none 0 0] 26)).set H1.y (.C [.Z r.op,.slice a r.l.length c] 26)):=((Ext.refl H1).push _).set (Lb _) _;have aa:((H1.push (.C [.Z 0,.slice none 0 0] 26)).set H1.y (.C [.Z r.op,.slice a r.l.length c] 26)).get H1.y=some (.C [.Z r.op,.slice a r.l.length c] 26):=by rw[Qj,Lc rfl]
 generalize (H1.push (.C [.Z 0,.slice none 0 0] 26)).set H1.y (.C [.Z r.op,.slice a r.l.length c] 26)=H2 at q aa;unfold GO;cases aq:r.e==e<;>cases ak:r.n==0<;>cases am:r.op==0<;>simp only[Qb,simprocAttr,ak,am,aa,Qd0]
 all_goals exact .mk (ac.trans q).y ⟨rfl,ac.trans q⟩
theorem QJ9 (op n:Int)(an:Value)(l:List Ar)(va:Value)(bs:List Int)(H:Qa)(ap:T H)(hi:Wg H an l)(aq:Qli H va bs)(ar:bs.length<=100000)(ay:l.length<=1000000):Qe Pg 15 [.agg #[.Z op,an],.Z n,va] H λu H'=>u=.bool (isF (dcd L bs) op n l)∧Ext H H':=by
 refine Qh2 λae=>?_;obtain⟨ac,ad,rfl,_⟩:=id hi;simp only[QaA,Qb,simprocAttr];have aa:Ext H (H.push (.C [.Z op,.slice ac l.length ad] 26)):=(Ext.refl H).push _;have aC:=ae.push (.C [.Z op,.slice ac l.length ad] 26);have ai:(H.push (.C [.Z op,.slice ac l.length ad] 26)).get H.y=some (.C [.Z op,.slice ac l.length ad] 26):=by rw[Qc,Lc rfl]
 generalize H.push (.C [.Z op,.slice ac l.length ad] 26)=H0 at *;refine(KG hR hty (λf au=>hsl f (X0 f bs true 0 L au)) va hT H0 (hT _ _ ae ap aa) (aq.ext ae aa) ar).w ?_;rintro _ H1 aG ak ⟨aE,v,rfl,ag,av⟩;clear av;have ao:QaK bs (Q7 bs true 0 L) 4=dcd L bs:=rfl;rw[ao]at ag ⊢;obtain⟨a,c,rfl,_⟩:=id ag;have az:=QtO L bs;generalize dcd L bs=r at *;simp only[Qb,simprocAttr];have ah:Ext H1 ((H1.push (.C [.Z 0,.slice none 0 0] 26)).set H1.y (.C [.Z r.op,.slice a r.l.length c] 26)):=((Ext.refl H1).push _).set (Lb _) _;have aD:((H1.push (.C [.Z 0,.slice none 0 0] 26)).set H1.y (.C [.Z r.op,.slice a r.l.length c] 26)).Wf:=(ak.push _).set (by rw[Qc,Lc rfl]) _;have aj:((H1.push (.C [.Z 0,.slice none 0 0] 26)).set H1.y (.C [.Z r.op,.slice a r.l.length c] 26)).get H1.y=some (.C [.Z r.op,.slice a r.l.length c] 26):=by rw[Qj,Lc rfl]
 generalize (H1.push (.C [.Z 0,.slice none 0 0] 26)).set H1.y (.C [.Z r.op,.slice a r.l.length c] 26)=H2 at ah aD aj;have ab:=aE.trans ah;have aw:H2.get H.y=some (.C [.Z op,.slice ac l.length ad] 26):=by rw[ab.get _ (aC.lt ai)];exact ai
 have ax:=hi.ext ae (aa.trans ab);have aB:=ag.ext ak ah;have q:=QeY r.op op _ _ r.l l H2 aB ax az ay;unfold isF;cases aI:r.e==0<;>cases aF:r.n==n<;>simp only[Qb,simprocAttr,aF,aj,aw,VO];·exact .mk (aa.trans ab).y ⟨rfl,aa.trans ab⟩
 ·exact .mk (aa.trans ab).y ⟨rfl,aa.trans ab⟩
 ·exact .mk (aa.trans ab).y ⟨rfl,aa.trans ab⟩
 refine q.w ?_;rintro _ _ aA aH ⟨rfl,k,rfl⟩;simp only[Qb,simprocAttr,VO];have am:=(aa.trans ab).trans ((Ext.refl H2).up aA);exact .mk am.y ⟨by simp,am⟩
end
theorem QeZ (H:Qa)(b b':Blk):Ext H ((H.push b).set H.y b'):=((Ext.refl H).push b).set (Lb _) b'
theorem QtP (H:Qa)(bs:List Int):Qli (H.push (.C (bys bs) 5)) (.S H.y bs.length bs.length) bs:=
 Gx.bsB (H0:=H) (.inr ⟨_,_,rfl,Lb _,by rw[Qc,Lc rfl],by rw[Yn,NH],.inl rfl⟩)
theorem QFZ (H:Qa)(l:List Ar):Wg (H.push (.C (Ql l) 50)) (.S H.y l.length l.length) l:=
 ⟨_,_,rfl,λ_=>⟨_,_,_,rfl,by rw[Qc,Lc rfl]⟩⟩
theorem QIE (H:Qa):Wg H (.slice none 0 0) []:=⟨none,0,rfl,λh=>absurd h (NX 0)⟩
theorem QF0 (c k:Int)(H:Qa):Qe Pg 17 [.Z c,.Z k] H λu H'=>u=.agg (Ar.cells ⟨1,⟨c,k⟩,Wa,0⟩).toArray∧Ext H H':=by
 refine QjK λq=>?_;simp only[QbL,Qb,simprocAttr,Qh4];exact .mk (QeZ _ _ _).y ⟨rfl,QeZ _ _ _⟩
theorem QF1 (k:Int)(H:Qa):Qe Pg 18 [.Z k] H λu H'=>u=.agg (Ar.cells ⟨3,⟨0,0⟩,Wa,k⟩).toArray∧Ext H H':=by
 refine QjL λq=>?_;simp only[QbM,Qb,simprocAttr,Qh5];exact .mk (QeZ _ _ _).y ⟨rfl,QeZ _ _ _⟩
theorem Qv7 (op:Int)(a:Option Addr)(n c:Nat)(H:Qa):Qe Pg 16 [.Z op,.slice a n c] H λu H'=>u=.agg #[.Z op,.slice a n c]∧Ext H H':=by
 refine Qh3 λq=>?_;simp only[QaB,Qb,simprocAttr,Qhc];exact .mk (QeZ _ _ _).y ⟨rfl,QeZ _ _ _⟩
def rg (c n:Int):Ar:=⟨1,⟨c,n⟩,Wa,0⟩
def exP:Ar:=⟨2,⟨0,0⟩,⟨⟨5,3⟩,⟨5,9⟩,8,16,8⟩,0⟩
structure QDp (L:List Fm):Prop where
 a1:isF (dcd L [131,192,5,9]) 1 3 [rg 4 0,nA 3 5]=true
 a2:isF (dcd L [64,144]) 50 2 []=true
 a3:GO (dcd L [131,192]) 9=true
 a4:GO (dcd L [6]) 4=true
 b1:isF (dcd L [144]) 50 1 []=true
 b2:GO (dcd L [15]) 9=true
 b3:GO (dcd L [102,242,72]) 4=true
 b4:GO (dcd L []) 9=true
 b5:isF (dcd L [74,139,68,203,16]) 9 5 [rg 5 0,exP]=true
 b6:isF (dcd L [72,135,200]) 11 3 [rg 5 0,rg 5 1]=true
 c:∃f,L[0]? = some f∧isF (QD [4,255] f) 1 2 [rg 1 0,nA 3 (-1)]=true∧(QD [5] f).e=4∧(QD [4] f).e=9
section
variable {T:Qa->Prop} {L:List Fm} (hT:∀H H',H.Wf->T H->Ext H H'->T H') (hR:∀H,T H->Qe Pg 32 [] H λu H'=>QdY H H' u L) (hty:QiN 81) (hsl:∀f∈L,f.shapes.length=f.slots.length)
include hT hR hty hsl
theorem Qv8 (q:QDp L)(H:Qa)(aa:T H):Qe Pg 5 [] H λu H'=>u=.bool true∧Ext H H':=by
 refine QeM λab=>?_;simp only[GJ,Qb,simprocAttr];refine(QF0 4 0 H).w ?_;rintro _ H1 aF aN ⟨rfl,ay⟩;simp only[Qb,simprocAttr];refine(QF1 5 H1).w ?_;rintro _ H2 aG aq ⟨rfl,az⟩;simp only[Qb,simprocAttr,Ar.cells,Rg.cells,Mm.cells,Wa,Nm,LH];have e:H2.push (.C [.Z 1,.Z 4,.Z 0,.Z 0,.Z 0,.Z 0,.Z 0,.Z 0,.Z 0,.Z 0,.Z 0,.Z 3,.Z 0,.Z 0,.Z 0,.Z 0,.Z 0,.Z 0,.Z 0,.Z 0,.Z 0,.Z 5] 50)=H2.push (.C (Ql [rg 4 0,nA 3 5]) 50):=rfl;rw[e];clear e;have aA:=(ay.trans az).push (.C (Ql [rg 4 0,nA 3 5]) 50);have ak:=QFZ H2 [rg 4 0,nA 3 5];have ar:=aq.push (.C (Ql [rg 4 0,nA 3 5]) 50);generalize H2.push (.C (Ql [rg 4 0,nA 3 5]) 50)=H3 at *;refine(Qv7 1 _ _ _ H3).w ?_;rintro _ H4 aH au ⟨rfl,ad⟩;have e:H4.push (.C [.int .u8 131,.int .u8 192,.int .u8 5,.int .u8 9] 5)=H4.push (.C (bys [131,192,5,9]) 5):=rfl;simp only[Qb,simprocAttr,e];clear e;have ae:=(Ext.refl H4).push (.C (bys [131,192,5,9]) 5);have ag:=(aA.trans ad).trans ae;have am:=QtP H4 [131,192,5,9];have aO:=au.push (.C (bys [131,192,5,9]) 5);generalize H4.push (.C (bys [131,192,5,9]) 5)=H5 at *;refine(QJ9 hT hR hty hsl 1 3 _ [rg 4 0,nA 3 5] _ _ H5 (hT _ _ ab aa ag) (ak.ext ar (ad.trans ae)) am (by decide) (by decide)).w ?_;rw[q.a1];rintro _ H6 aI aP ⟨rfl,aB⟩;simp only[Qb,simprocAttr];refine(Qv7 50 _ _ _ H6).w ?_;rintro _ H7 aJ av ⟨rfl,aC⟩;have e:H7.push (.C [.int .u8 64,.int .u8 144] 5)=H7.push (.C (bys [64,144]) 5):=rfl;simp only[Qb,simprocAttr,e];clear e;have ah:=((ag.trans aB).trans aC).push (.C (bys [64,144]) 5);have an:=QtP H7 [64,144];have aQ:=av.push (.C (bys [64,144]) 5);generalize H7.push (.C (bys [64,144]) 5)=H8 at *;refine(QJ9 hT hR hty hsl 50 2 _ [] _ _ H8 (hT _ _ ab aa ah) (QIE _) an (by decide) (by decide)).w ?_;rw[q.a2];rintro _ H9 aK aw ⟨rfl,aD⟩;have e:H9.push (.C [.int .u8 131,.int .u8 192] 5)=H9.push (.C (bys [131,192]) 5):=rfl;simp only[Qb,simprocAttr,e];clear e;have ai:=(ah.trans aD).push (.C (bys [131,192]) 5);have ao:=QtP H9 [131,192];have aR:=aw.push (.C (bys [131,192]) 5);generalize H9.push (.C (bys [131,192]) 5)=Ha at *;refine(QoJ hT hR hty hsl 9 _ _ Ha (hT _ _ ab aa ai) ao (by decide)).w ?_;rw[q.a3];rintro _ Hb aL ax ⟨rfl,aE⟩;have e:Hb.push (.C [.int .u8 6] 5)=Hb.push (.C (bys [6]) 5):=rfl;simp only[Qb,simprocAttr,e];clear e;have ac:=(ai.trans aE).push (.C (bys [6]) 5);have ap:=QtP Hb [6];have aS:=ax.push (.C (bys [6]) 5);generalize Hb.push (.C (bys [6]) 5)=Hc at *;refine(QoJ hT hR hty hsl 4 _ _ Hc (hT _ _ ab aa ac) ap (by decide)).w ?_;rw[q.a4];rintro _ Hd aM aT ⟨rfl,aj⟩;simp only[Qb,simprocAttr,QdZ];exact .mk (ac.trans aj).y ⟨rfl,ac.trans aj⟩
end
section
variable {T:Qa->Prop} {L:List Fm} (hT:∀H H',H.Wf->T H->Ext H H'->T H') (hR:∀H,T H->Qe Pg 32 [] H λu H'=>QdY H H' u L) (hty:QiN 81) (hsl:∀f∈L,f.shapes.length=f.slots.length) (hO:∀op H,T H->Qe Pg 31 [.Z op] H λu H'=>QdY H H' u (L.filter λf=>f.op==op)) (hK:QDp L)
include hT hR hty hsl hO hK
end
section
variable {T:Qa->Prop} {L:List Fm} (hT:∀H H',H.Wf->T H->Ext H H'->T H') (hR:∀H,T H->Qe Pg 32 [] H λu H'=>QdY H H' u L) (hty:QiN 81) (hsl:∀f∈L,f.shapes.length=f.slots.length) (hO:∀op H,T H->Qe Pg 31 [.Z op] H λu H'=>QdY H H' u (L.filter λf=>f.op==op)) (hK:QDp L) (hL:LOk L) (hLl:L.length<=6000)
include hT hR hty hsl hO hK hL hLl
end
abbrev KF2 (H:Qa):Env->Qa->Prop:=Rt Pg Tryz.f3 H λu H'=>u=.bool true∧Ext H H'
section
variable {T:Qa->Prop} {L:List Fm} (hT:∀H H',H.Wf->T H->Ext H H'->T H') (hR:∀H,T H->Qe Pg 32 [] H λu H'=>QdY H H' u L) (hty:QiN 81) (hsl:∀f∈L,f.shapes.length=f.slots.length) (hO:∀op H,T H->Qe Pg 31 [.Z op] H λu H'=>QdY H H' u (L.filter λf=>f.op==op)) (hK:QDp L) (hL:LOk L) (hLl:L.length<=6000)
include hT hR hty hsl hO hK hL hLl
omit hR hty hsl hK in
theorem QGH {H H4:Qa}(b7:H.Wf)(bm:T H)(aQ:Ext H H4)(ao:H4.Wf){vb:Value}{b:List Int}(aJ:QeL H4 vb b)(aw:WO b)(bK:b.length<=30)(ab:(dcd L b).e=0){B:Nat}{va:Option Addr}{vc:Nat}
  (gB:H4.get B=some (.C [.Z (dcd L b).op,.slice va (dcd L b).l.length vc] 26)) (av:Wg H4 (.slice va (dcd L b).l.length vc) (dcd L b).l) (bq:∀n,H4.y<=n->Qp n 6 (.agg #[.Z (dcd L b).op,.slice va (dcd L b).l.length vc])=true)
  {A:Env} (aj:A 0=vb) (am:A 5=.bool true) (ac:A 6=.P B) (ae:A 7=.Z (dcd L b).n):
  Qm Pg Xj ⟨KF2 H,X4⟩ (KF2 H) A H4:=by
 obtain⟨⟨bB,bC,bD⟩,aX,aY,w,az,aA⟩:=QsK hL aw (by omega) ab;have aI:∀a∈(dcd L b).l,I64 a.n:=by
  rcases QjR hL.fit hL.one aw (by omega) with⟨f,ay,aG,aa⟩ | ⟨_,⟨aa,_⟩ | ⟨aa,_⟩⟩;·rw[aa];exact(Qzt (by omega) f aG).i
  ·rw[aa]at ab;cases ab
  rw[aa]at ab;cases ab
 have bM:(dcd L b).l.length<=5:=by
  rcases QjR hL.fit hL.one aw (by omega) with⟨f,ay,aG,aa⟩ | ⟨_,⟨aa,_⟩ | ⟨aa,_⟩⟩;·rw[aa];exact QsA b f
  ·rw[aa]at ab;cases ab
  rw[aa]at ab;cases ab
 have bn:QBz (L.filter λf=>f.op==(dcd L b).op) (dcd L b).op (dcd L b).l=(Qhy (L.filter λf=>f.op==(dcd L b).op) (dcd L b).op (dcd L b).l,0):=by
  unfold QBz;rw[aX,Le (show ¬ ((0:Int)==0)=false by decide),Le];intro h;rw[DF]at h;rw[h]at az;cases az
 have bJ:(Qhy (L.filter λf=>f.op==(dcd L b).op) (dcd L b).op (dcd L b).l).length<=288000:=QGG (by have:=R7 (λf=>f.op==(dcd L b).op) L;omega);have bL:∀w∈Qhy (L.filter λf=>f.op==(dcd L b).op) (dcd L b).op (dcd L b).l,(1<=w.b.length∧w.b.length<=15)∧∀z∈w.b,0<=z∧z<256:=QJe (Li.2 λf ay=>Lp (hL.n15 f (Bo.1 ay).1)) _ _;have aB:=QeT (dcd L b).op (dcd L b).l H4 _ av (by omega) aI;have aT:=fun(H5:Qa) (hx:Ext H4 H5)=>Qul (L:=λop=>L.filter λf=>f.op==op) hT hO H5 (hT _ _ b7 bm (aQ.trans hx)) (av.ext ao hx) (λn bN=>bq n (by have:=hx.y;omega)) (by omega) aI;simp only[bn]at aT;unfold QeS at aB;rw[aY]at aB;generalize bI:Qhy (L.filter λf=>f.op==(dcd L b).op) (dcd L b).op (dcd L b).l=Q at *;obtain⟨m,aK⟩:∃m:Nat,(dcd L b).n=m:=⟨(dcd L b).n.toNat,by omega⟩;rw[aK]at ae bB bC bD aA;rw[LG]at aA;generalize (dcd L b).op=op at *;generalize (dcd L b).l=C at *;clear aK ab;simp only[Xj,Qb,simprocAttr,ac,gB];refine aB.w ?_;rintro _ H5 bO aO ⟨bA,bU,rfl,aH,_⟩;obtain⟨a5,ad,rfl,_⟩:=id aH;simp only[Qb,simprocAttr];have aF:=QeZ H5 (.C [.Z 0,.slice none 0 0] 26) (.C [.Z op,.slice a5 C.length ad] 26);have au:((H5.push (.C [.Z 0,.slice none 0 0] 26)).set H5.y (.C [.Z op,.slice a5 C.length ad] 26)).Wf:=(aO.push _).set (by rw[Qc,Lc rfl]) _;have aE:((H5.push (.C [.Z 0,.slice none 0 0] 26)).set H5.y (.C [.Z op,.slice a5 C.length ad] 26)).get H5.y=some (.C [.Z op,.slice a5 C.length ad] 26):=by rw[Qj,Lc rfl]
 have bj:=aH.ext aO aF;generalize (H5.push (.C [.Z 0,.slice none 0 0] 26)).set H5.y (.C [.Z op,.slice a5 C.length ad] 26)=H6 at *;have ah:=bA.trans aF;have ar:H6.get B=some (.C [.Z op,.slice va C.length vc] 26):=by rw[ah.get _ (ao.lt gB)];exact gB
 simp only[Qb,simprocAttr,ac,ar];refine(aT H6 ah).w ?_;rintro _ H7 bP aP ⟨bV,rfl,an,aR⟩;have an:=an.ls;obtain⟨a7,aZ,rfl⟩:=an.slc;obtain⟨aW,ba,rfl,_⟩:=id aJ;have b9:=ah.trans aR;simp only[Qb,simprocAttr];refine Qu (λq A' H'=>∃i:Nat,i<=Q.length∧q=Q.length - i∧H'.Wf∧Ext H7 H'∧A' 0=.slice aW b.length ba∧A' 5=.bool true∧A' 6=.P B∧A' 7=.Z m∧A' 12=.P H5.y∧A' 13=.Z 0∧A' 14=.slice a7 Q.length aZ∧A' 15=.Z 0∧A' 16=.bool ((Q.take i).any λw=>Qg9 w.b (b.take m))∧A' 17=.Z i) Q.length ?_ ?_
 ·refine⟨0,L7 _,by omega,aP,.refl _,?_,?_,?_,?_,?_,?_,?_,?_,?_,?_⟩
  all_goals simp only[Qd,simprocAttr,aj,am,ac,ae]
  all_goals rfl
 rintro q A' H' ⟨i,hi,rfl,aN,ag,aj,am,ac,ae,aC,r13,ap,r15,ak,aq⟩;simp only[YS,Qb,simprocAttr,ap,aq,W6];refine Qg (λaa=>?_) (λaa=>?_)
 ·have aa:i<Q.length:=by have:=Lg aa;omega
  have aD:IntKind.i64.wrap ((i:Int)+1)=((i+1:Nat):Int):=by rw[w64 (by unfold I64;omega)];omega
  obtain⟨c,ax⟩:∃c,Q[i]? = some c:=⟨_,La aa⟩;have aU:(Q.take (i+1)).any (λw=>Qg9 w.b (b.take m))=((Q.take i).any (λw=>Qg9 w.b (b.take m))||Qg9 c.b (b.take m)):=by
   rw[Nv,ax,Rz];simp
  generalize (Q.take i).any (λw=>Qg9 w.b (b.take m))=fnd at *;cases fnd with
  | true=>
   simp only[Xi,Qb,simprocAttr,ak,aq,aD];refine⟨Q.length - (i+1),by omega,i+1,by omega,rfl,aN,ag,?_,?_,?_,?_,?_,?_,?_,?_,?_,?_⟩
   all_goals simp only[Qd,simprocAttr,aj,am,ac,ae,aC,r13,ap,r15,aU,N1]
  | false=>
   obtain⟨ss,bQ,bw,bu⟩:=(an.go aP ag).it;obtain⟨b2,rfl,br⟩:∃b,a7=some ⟨b,0,none⟩∧H'.get b=some (.C (ldC ss Q) 40):=by
    rcases bw with⟨h,h',_⟩ | ⟨b,c,h,bT,bE,_⟩;·omega
    cases h;exact⟨b,rfl,bE⟩
   obtain⟨sv,aM⟩:∃sv,ss[i]? = some sv:=⟨_,La (by omega)⟩;have aL:=bu i sv c aM ax;have bo:=Qt7 ss Q i sv c aM ax;have d1:(0:Int)<=i∧(i:Int)<Q.length:=by omega
   have d3:(i:Int).toNat=i:=by omega
   have bx:(ldC ss Q)[i * 3]? = some sv:=by
    have:=congrArg (λl=>l[0]?) bo;simpa[Nl,Nk] using this
   obtain⟨bG,bH,rfl⟩:=aL.slc;have bp:=aJ.ext ao (b9.trans ag);obtain⟨bF,bd,b8⟩:=bp.fst (n:=m) (by omega);simp only[Xi,Qb,simprocAttr,aj,ae,ap,ak,aq,d1,d3,br,bx];refine⟨_,bd,?_⟩;refine(QFq _ bF c.b (b.take m) H' aL.cellsB b8.cells).w ?_;rintro _ H' _ _ ⟨rfl,rfl⟩;simp only[Qb,simprocAttr,aq,aD];refine⟨Q.length - (i+1),by omega,i+1,by omega,rfl,aN,ag,?_,?_,?_,?_,?_,?_,?_,?_,?_,?_⟩
   all_goals simp only[Qd,simprocAttr,aj,am,ac,ae,aC,r13,ap,r15,aU,Nt]
 have aa:i=Q.length:=by have:=Ll aa;omega
 subst aa;have bc:((Q.take Q.length).any λw=>Qg9 w.b (b.take m))=true:=by
  rw[Nr];exact Bh.2 ⟨w,az,by rw[aA];exact QxT _⟩
 rw[bc]at ak;have ai:=aR.trans ag;have bi:H'.get H5.y=some (.C [.Z op,.slice a5 C.length ad] 26):=by rw[ai.get _ (au.lt aE)];exact aE
 have bh:H'.get B=some (.C [.Z op,.slice va C.length vc] 26):=by rw[ai.get _ (au.lt ar)];exact ar
 have aV:((0:Int)==0)=true:=rfl;simp only[YP,Qb,simprocAttr,am,ac,aC,r13,r15,ak,aV,bi,bh];refine(QeY op op _ _ C C H' (bj.ext au ai) (av.ext ao (ah.trans ai)) (by omega) (by omega)).w ?_;rintro _ _ bz bR ⟨rfl,bS,rfl⟩;have bg:(op==op&&decide (C=C))=true:=by simp
 rw[bg];have aS:=(aQ.trans (ah.trans ai)).trans ((Ext.refl H').up bz);simp only[Qb,simprocAttr,r15,ak,aV,QI];exact .mk aS.y ⟨rfl,aS⟩
theorem QrU {vb bo:Value}{b R:List Int}(H:Qa)(aj:T H)(aV:QeL H vb b)(ar:WO b)(ba:QeL H bo R)(bz:WO R):
  Qe Pg 3 [vb,bo] H λu H'=>u=.bool true∧Ext H H':=by
 refine Qaa λag=>?_;obtain⟨bW,bY,rfl,_⟩:=id aV;obtain⟨bX,bZ,rfl,_⟩:=id ba;simp only[Zp,Qb,simprocAttr];refine(Qv8 hT hR hty hsl hK H aj).w ?_;rintro _ H1 cb bJ ⟨rfl,ah⟩
 by_cases aU:(b.length:Int)>30;·have z:decide ((b.length:Int)>30)=true:=Lp aU;simp only[Qb,simprocAttr,W6,z,QI];exact .mk ah.y ⟨rfl,ah⟩
 have bp:decide ((b.length:Int)>30)=false:=Lj aU
 by_cases aT:(R.length:Int)>20;·have z:decide ((R.length:Int)>20)=true:=Lp aT;simp only[Qb,simprocAttr,W6,bp,z,QI];exact .mk ah.y ⟨rfl,ah⟩
 have bS:decide ((R.length:Int)>20)=false:=Lj aT;have b8:WO (b++R):=λz bP=>(LI.1 bP).elim (ar z) (bz z);have bD:(b++R).length=b.length+R.length:=Lh;have aI:=Qv6 hL.fit hL.one b8 (by omega);have bC:=QjR hL.fit hL.one ar (by omega);simp only[Qb,simprocAttr,W6,bp,bS,YW];have aW:=aV.ext ag ah;refine(KG hR hty (λf aA=>hsl f (X0 f _ true 0 L aA)) _ hT H1 (hT _ _ ag aj ah) aW.bs (by omega)).w ?_;rintro _ H2 cc bc ⟨bM,cm,rfl,aJ,bA⟩;have e1:QaK b (Q7 b true 0 L) 4=dcd L b:=rfl;rw[e1]at aJ ⊢;obtain⟨a2,ad,rfl,_⟩:=id aJ;simp only[Qb,simprocAttr];have aF:=QeZ H2 (.C [.Z 0,.slice none 0 0] 26) (.C [.Z (dcd L b).op,.slice a2 (dcd L b).l.length ad] 26);have ae:((H2.push (.C [.Z 0,.slice none 0 0] 26)).set H2.y (.C [.Z (dcd L b).op,.slice a2 (dcd L b).l.length ad] 26)).Wf:=(bc.push _).set (by rw[Qc,Lc rfl]) _;have ax:((H2.push (.C [.Z 0,.slice none 0 0] 26)).set H2.y (.C [.Z (dcd L b).op,.slice a2 (dcd L b).l.length ad] 26)).get H2.y=some (.C [.Z (dcd L b).op,.slice a2 (dcd L b).l.length ad] 26):=by rw[Qj,Lc rfl]
 have au:=aJ.ext bc aF;have b9:∀n,H2.y<=n->Qp n 6 (.agg #[.Z (dcd L b).op,.slice a2 (dcd L b).l.length ad])=true:=λn aZ=>by
  cases a2 with
  | none=>simp[Qp,Ab.plain]
  | some a=>
   have aS:=(bA _ _ _ rfl).2;simp[Qp,Ab.plain];omega
 generalize (H2.push (.C [.Z 0,.slice none 0 0] 26)).set H2.y (.C [.Z (dcd L b).op,.slice a2 (dcd L b).l.length ad] 26)=H3 at *;have bg:=bM.trans aF;have aM:=ah.trans bg;have aG:=aW.ext bJ bg;have bH:=ba.ext ag aM;refine(QvF _ b H3 aG.src (λH'' _ hx=>(aG.ext ae hx).src) (by omega)).w ?_;rintro cl H4 ce bK ⟨g4,bh⟩;simp only[Qb,simprocAttr];refine V6 g4 bh bK (bH.ext ae bh).src (Vu _) (by rw[Yn,NH]) (by omega) (by omega) λu H5 aQ aX=>?_;have bi:=aX.x;have cg:=aX.w;have br:bys b++bys R=bys (b++R):=by unfold bys;rw[N6]
 rw[br,<- bD]at aQ;have bN:=aM.trans bi;simp only[Qb,simprocAttr];refine(KG hR hty (λf aA=>hsl f (X0 f _ true 0 L aA)) u hT H5 (hT _ _ ag aj bN) aQ.bsB (by omega)).w ?_;rintro _ H6 cf bd ⟨bO,co,rfl,aK,bB⟩;clear bB;have bq:QaK (b++R) (Q7 (b++R) true 0 L) 4=dcd L (b++R):=rfl;rw[bq]at aK ⊢;obtain⟨a6,ao,rfl,_⟩:=id aK;have ca:=QtO L (b++R);have aY:=QtO L b;simp only[Qb,simprocAttr];have aR:=QeZ H6 (.C [.Z 0,.slice none 0 0] 26) (.C [.Z (dcd L (b++R)).op,.slice a6 (dcd L (b++R)).l.length ao] 26);have aE:((H6.push (.C [.Z 0,.slice none 0 0] 26)).set H6.y (.C [.Z (dcd L (b++R)).op,.slice a6 (dcd L (b++R)).l.length ao] 26)).Wf:=(bd.push _).set (by rw[Qc,Lc rfl]) _;have aq:((H6.push (.C [.Z 0,.slice none 0 0] 26)).set H6.y (.C [.Z (dcd L (b++R)).op,.slice a6 (dcd L (b++R)).l.length ao] 26)).get H6.y=some (.C [.Z (dcd L (b++R)).op,.slice a6 (dcd L (b++R)).l.length ao] 26):=by rw[Qj,Lc rfl]
 have av:=aK.ext bd aR;generalize (H6.push (.C [.Z 0,.slice none 0 0] 26)).set H6.y (.C [.Z (dcd L (b++R)).op,.slice a6 (dcd L (b++R)).l.length ao] 26)=H7 at *;have ai:=bi.trans (bO.trans aR);have ak:=aM.trans ai;have aH:=aG.ext ae ai;have ap:H7.get H2.y=some (.C [.Z (dcd L b).op,.slice a2 (dcd L b).l.length ad] 26):=by rw[ai.get _ (ae.lt ax)];exact ax
 have bn:=fun(e:Int) (H8:Qa) (hx:Ext H7 H8)=>QoJ hT hR hty hsl e _ b H8 (hT _ _ ag aj (ak.trans hx)) (aH.ext aE hx).bs (by omega);have aO:((0:Int)==0)=true:=rfl;have an:((9:Int)==9)=true:=rfl;have bU:((4:Int)==9)=false:=rfl;have bT:((4:Int)==0)=false:=rfl;have aP:((4:Int)==4)=true:=rfl;have cp:((9:Int)==0)=false:=rfl;rcases bC with⟨f,aA,aS,ab⟩ | ⟨aZ,⟨ab,_⟩ | ⟨ab,_⟩⟩
 ·have ay:(dcd L b).e=0:=by rw[ab,aS]
  have az:=aI.1 ay;obtain⟨⟨ch,ci,cj⟩,_⟩:=QsK hL ar (by omega) ay;rw[az]at av aq ⊢;have bR:((0:Int)==9)=false:=rfl;have bV:((dcd L b).n==(dcd L b).n)=true:=LO _;simp only[ay,Qb,simprocAttr,bR,aO,Xl,L8,bV,ap,aq];refine(QeY (dcd L b).op (dcd L b).op _ _ (dcd L b).l (dcd L b).l H7 (au.ext ae ai) av aY aY).w ?_;rintro _ _ aB aL ⟨rfl,bj,rfl⟩;have aD:((dcd L b).op==(dcd L b).op&&decide ((dcd L b).l=(dcd L b).l))=true:=by simp
  rw[aD];have q:=(Ext.refl H7).up aB;have bQ:decide ((dcd L b).n<1)=false:=Lj (by omega);have ac:decide ((dcd L b).n>15)=false:=Lj (by omega);have aw:decide ((dcd L b).n>(b.length:Int))=false:=Lj (by omega);simp only[Qb,simprocAttr,aO,L8,YT,bQ,ac,aw,W6];refine QGH hT hO hL hLl ag aj (ak.trans q) aL (aH.ext aE q) ar (by omega) ay (B:=H2.y) (va:=a2) (vc:=ad) (by rw[XB];exact ap) (au.ext ae (ai.trans q)) (λn aZ=>b9 n (by have:=aF.y;have:=(ai.trans q).y;omega)) ?_ ?_ ?_ ?_
  all_goals simp only[Qd,simprocAttr]
 ·have am:=bn 9 H7 (.refl _);rw[ab,QjT]at am;have bF:=aI.2.2 (by rw[ab];rfl);rw[ab];have bx:∀ (H8:Qa),Ext H7 H8->((dcd L (b++R)).e==0)=false∨(((dcd L (b++R)).e==0)=true∧decide ((dcd L (b++R)).n>(b.length:Int))=true):=λH8 _=>by
   rcases bF with h | h | ⟨h,h'⟩;·rw[h];exact .inl rfl
   ·rw[h];exact .inl rfl
   exact .inr ⟨by rw[h];rfl,Lp h'⟩
  simp only[Y0,Qb,simprocAttr,an,YV];refine am.w ?_;rintro _ H8 aB aL ⟨rfl,q⟩;have GW:=bx H8 q
  by_cases b7:b.length=0
  ·have y:((b.length:Int)==0)=true:=by rw[b7];rfl
   have aa:=ak.trans q;rcases GW with ac | ⟨ac,aw⟩;·simp only[Qb,simprocAttr,an,W6,y,ac,QI];exact .mk aa.y ⟨by simp,aa⟩
   simp only[Qb,simprocAttr,an,W6,y,ac,aw,QI];exact .mk aa.y ⟨by simp,aa⟩
  have y:((b.length:Int)==0)=false:=LC.2 (by omega);have bu:IntKind.i64.wrap ((b.length:Int) - 1)=((b.length - 1:Nat):Int):=by rw[w64 (by unfold I64;omega)];omega
  obtain⟨w,bw,bI⟩:=(aH.ext aE q).fst (n:=b.length - 1) (by omega);have aC:b.take (b.length - 1)++b.drop (b.length - 1)=b:=NW _ b;have bE:=QDo hL.fit hL.one (w:=b.take (b.length - 1)) (more:=b.drop (b.length - 1)) (by rw[aC];exact ar) (by rw[aC];omega) (by rw[aC,ab];rfl);simp only[Qb,simprocAttr,an,W6,y,bu];refine⟨_,bw,?_⟩;have bm:=QoJ hT hR hty hsl 9 w _ H8 (hT _ _ ag aj (ak.trans q)) bI.bs (by rw[Sb];omega);rw[bE,QjT]at bm;refine bm.w ?_;rintro _ H9 bG bL ⟨rfl,aN⟩;have aa:=(ak.trans q).trans aN;rcases GW with ac | ⟨ac,aw⟩;·simp only[Qb,simprocAttr,an,W6,ac,QI];exact .mk aa.y ⟨by simp,aa⟩
  simp only[Qb,simprocAttr,an,W6,ac,aw,QI];exact .mk aa.y ⟨by simp,aa⟩
 have az:=aI.2.1 ab;have am:=λH8 hx=>bn 4 H8 hx;rw[ab]at am au ax ap;simp only[QjT]at am;rw[az]at av aq;rw[ab,az];simp only[Y0]at au ax ap av aq;simp only[Y0,Qb,simprocAttr,bU,Xl,aP,aO,L8,ap,aq];refine(QeY 0 0 _ _ [] [] H7 (au.ext ae ai) av (by decide) (by decide)).w ?_;rintro _ _ aB aL ⟨rfl,bj,rfl⟩;have q:=(Ext.refl H7).up aB;have aD:((0:Int)==0&&decide (([]:List Ar)=[]))=true:=rfl;rw[aD];simp only[Qb,simprocAttr,bT,aP,L8,LM,YU];refine(am (H7.up bj) q).w ?_;rintro _ H9 bG bL ⟨rfl,aN⟩;have aa:=(ak.trans q).trans aN;simp only[Qb,simprocAttr,aP,QI];exact .mk aa.y ⟨rfl,aa⟩
end
