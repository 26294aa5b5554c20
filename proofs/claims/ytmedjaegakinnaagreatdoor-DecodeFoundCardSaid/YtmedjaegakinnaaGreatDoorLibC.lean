/- shape: one operand, held against a shape. -/
import Derived.Test.YtmedjaegakinnaaGreatDoorLibB
import Derived.Test.YtmedjaegakinnaaGreatDoorLibN
import Derived.Test.YtmedjaegakinnaaGreatDoorLibI
import Derived.Test.YtmedjaegakinnaaGreatDoorLibR
set_option linter.defProp false
set_option linter.unusedVariables false
set_option linter.unusedSimpArgs false
set_option maxRecDepth 100000
set_option maxHeartbeats 4000000
noncomputable section
namespace Go.Proofs.YtmedjaegakinnaaGreatDoor.code
open Go.Ab
structure Gv where
 a:Ar
 bits:Int
 n:Int
def Gv.cells (g:Gv):List Value:=[.Z g.a.k,.Z g.a.r.c,.Z g.a.r.n,.Z g.a.m.b.c,.Z g.a.m.b.n,.Z g.a.m.i.c,.Z g.a.m.i.n,.Z g.a.m.sc,.Z g.a.m.d,.Z g.a.m.sz,.Z g.a.n,.Z g.bits,.Z g.n]
def Ys (g:Gv)(c:Int):Bool:=(g.a.k==1)&&(g.a.r.c==c)
def VQ (g:Gv)(z:Int):Bool:=(g.a.k==2)&&(g.a.m.sz==z)
def Qe2 (g:Gv)(c:Int)(H:Qa):Qe Pg 108 [.agg g.cells.toArray,.Z c] H λu H'=>u=.bool (Ys g c)∧∃k,H'=H.up k:=by
 refine QgM λq=>?_;unfold Ys;obtain⟨⟨k,⟨ag,ah⟩,⟨⟨aa,ab⟩,⟨ad,ae⟩,sc,d,sz⟩,n⟩,bits,ac⟩:=g;simp only[Gv.cells,VI,Qb,simprocAttr];cases h:k==1<;>simp only[Qb,simprocAttr,Qf1]
 all_goals exact .ext q ((Ext.refl H).push _) ⟨by simp,_,rfl⟩
def Qt4 (g:Gv)(z:Int)(H:Qa):Qe Pg 117 [.agg g.cells.toArray,.Z z] H λu H'=>u=.bool (VQ g z)∧∃k,H'=H.up k:=by
 refine QgN λq=>?_;unfold VQ;obtain⟨⟨k,⟨ag,ah⟩,⟨⟨aa,ab⟩,⟨ad,ae⟩,sc,d,sz⟩,n⟩,bits,ac⟩:=g;simp only[Gv.cells,VJ,Qb,simprocAttr];cases h:k==2<;>simp only[Qb,simprocAttr,Qf2]
 all_goals exact .ext q ((Ext.refl H).push _) ⟨by simp,_,rfl⟩
/-! The tests. -/
def QK4 (g:Gv)(H:Qa):Qe Pg 109 [.agg g.cells.toArray] H λu H'=>u=.bool (false)∧∃m,H'=H.up m:=by
 refine Qmp λq=>?_;obtain⟨⟨k,⟨ag,ah⟩,⟨⟨aa,ab⟩,⟨ad,ae⟩,sc,d,sz⟩,n⟩,bits,ac⟩:=g;simp only[Gv.cells,QdA,Qb,simprocAttr,Qkv];exact .ext q ((Ext.refl H).push _) ⟨rfl,_,rfl⟩
def QK5 (g:Gv)(H:Qa):Qe Pg 110 [.agg g.cells.toArray] H λu H'=>u=.bool (Ys g 1||Ys g 2)∧∃m,H'=H.up m:=by
 refine Qmq λab=>?_;have q:=Qe2 g 1;obtain⟨ae,e0⟩:∃v,Ys g 1=v:=⟨_,rfl⟩;rw[e0]at q ⊢;have aa:=Qe2 g 2;obtain⟨ar,e1⟩:∃v,Ys g 2=v:=⟨_,rfl⟩;rw[e1]at aa ⊢;clear e0 e1;obtain⟨⟨k,⟨ap,aq⟩,⟨⟨ag,ah⟩,⟨am,ao⟩,sc,d,sz⟩,n⟩,bits,ai⟩:=g;simp only[Gv.cells]at q aa;simp only[Gv.cells,QdB,Qb,simprocAttr];refine(q _).w ?_;rintro _ _ ac aj ⟨rfl,an,rfl⟩;simp only[Qf,Q8]at ac;cases ae with
 | true=>
  simp only[Qb,simprocAttr,Qcj];exact .ext ab (((Ext.refl H).push _).up (by simp only[Qf];omega)) ⟨by simp,_,rfl⟩
 | false=>
  simp only[Qb,simprocAttr];refine(aa _).w ?_;rintro _ _ ad ak ⟨rfl,k1,rfl⟩;simp only[Q8]at ad;simp only[Qb,simprocAttr,Qcj];exact .ext ab ((((Ext.refl H).push _).up (by simp only[Qf];omega)).up (by simp only[Q8];omega)) ⟨by simp,_,rfl⟩
def QK6 (g:Gv)(H:Qa):Qe Pg 116 [.agg g.cells.toArray] H λu H'=>u=.bool (Ys g 1||Ys g 2||VQ g 1)∧∃m,H'=H.up m:=by
 refine Qmw λq=>?_;have aa:=Qe2 g 1;obtain⟨ah,e0⟩:∃v,Ys g 1=v:=⟨_,rfl⟩;rw[e0]at aa ⊢;have ab:=Qe2 g 2;obtain⟨ai,e1⟩:∃v,Ys g 2=v:=⟨_,rfl⟩;rw[e1]at ab ⊢;have ac:=Qt4 g 1;obtain⟨ax,e2⟩:∃v,VQ g 1=v:=⟨_,rfl⟩;rw[e2]at ac ⊢;clear e0 e1 e2;obtain⟨⟨k,⟨av,aw⟩,⟨⟨aj,ak⟩,⟨aq,au⟩,sc,d,sz⟩,n⟩,bits,am⟩:=g;simp only[Gv.cells]at aa ab ac;simp only[Gv.cells,QdH,Qb,simprocAttr];refine(aa _).w ?_;rintro _ _ ad an ⟨rfl,ar,rfl⟩;simp only[Qf,Q8]at ad;cases ah with
 | true=>
  simp only[Qb,simprocAttr,Gn];exact .ext q (((Ext.refl H).push _).up (by simp only[Qf];omega)) ⟨by simp,_,rfl⟩
 | false=>
  simp only[Qb,simprocAttr];refine(ab _).w ?_;rintro _ _ ae ao ⟨rfl,k1,rfl⟩;simp only[Q8]at ae;cases ai with
  | true=>
   simp only[Qb,simprocAttr,Gn];exact .ext q ((((Ext.refl H).push _).up (by simp only[Qf];omega)).up (by simp only[Q8];omega)) ⟨by simp,_,rfl⟩
  | false=>
   simp only[Qb,simprocAttr];refine(ac _).w ?_;rintro _ _ ag ap ⟨rfl,k2,rfl⟩;simp only[Q8]at ag;simp only[Qb,simprocAttr,Gn];exact .ext q (((((Ext.refl H).push _).up (by simp only[Qf];omega)).up (by simp only[Q8];omega)).up (by simp only[Q8];omega)) ⟨by simp,_,rfl⟩
def QKf (g:Gv)(H:Qa):Qe Pg 132 [.agg g.cells.toArray] H λu H'=>u=.bool (decide (8<g.bits)&&decide (-128<=g.n)&&decide (g.n<=127))∧∃m,H'=H.up m:=by
 refine QkP λab=>?_;obtain⟨⟨k,⟨ai,aj⟩,⟨⟨ac,ad⟩,⟨ag,ah⟩,sc,d,sz⟩,n⟩,bits,q⟩:=g;simp only[Gv.cells,Qcy,Qb,simprocAttr];cases ae:decide (8<bits)<;>cases aa:decide (-128<=q)<;>simp only[Qb,simprocAttr,aa,Qjr]
 all_goals exact .ext ab ((Ext.refl H).push _) ⟨by simp,_,rfl⟩
def QKg (g:Gv)(H:Qa):Qe Pg 135 [.agg g.cells.toArray] H λu H'=>u=.bool ((g.bits==64)&&decide (-2147483648<=g.n)&&decide (g.n<=2147483647))∧∃m,H'=H.up m:=by
 refine QkS λab=>?_;obtain⟨⟨k,⟨ai,aj⟩,⟨⟨ac,ad⟩,⟨ag,ah⟩,sc,d,sz⟩,n⟩,bits,q⟩:=g;simp only[Gv.cells,QcB,Qb,simprocAttr];cases ae:bits==64<;>cases aa:decide (-2147483648<=q)<;>simp only[Qb,simprocAttr,aa,Qju]
 all_goals exact .ext ab ((Ext.refl H).push _) ⟨by simp,_,rfl⟩
def QKh (g:Gv)(H:Qa):Qe Pg 137 [.agg g.cells.toArray] H λu H'=>u=.bool ((g.a.k==4)&&decide (-128<=g.a.n)&&decide (g.a.n<=127))∧∃m,H'=H.up m:=by
 refine QkU λaa=>?_;obtain⟨⟨k,⟨ai,aj⟩,⟨⟨ab,ac⟩,⟨ag,ah⟩,sc,d,sz⟩,n⟩,bits,ad⟩:=g;simp only[Gv.cells,QcD,Qb,simprocAttr];cases ae:k==4<;>cases q:decide (-128<=n)<;>simp only[Qb,simprocAttr,q,Qjw]
 all_goals exact .ext aa ((Ext.refl H).push _) ⟨by simp,_,rfl⟩
def QKi (g:Gv)(H:Qa):Qe Pg 138 [.agg g.cells.toArray] H λu H'=>u=.bool ((g.a.k==4))∧∃m,H'=H.up m:=by
 refine QkV λq=>?_;obtain⟨⟨k,⟨ag,ah⟩,⟨⟨aa,ab⟩,⟨ad,ae⟩,sc,d,sz⟩,n⟩,bits,ac⟩:=g;simp only[Gv.cells,QcE,Qb,simprocAttr];simp only[Qjx];exact .ext q ((Ext.refl H).push _) ⟨rfl,_,rfl⟩
def QKj (g:Gv)(H:Qa):Qe Pg 139 [.agg g.cells.toArray] H λu H'=>u=.bool (decide (0<g.bits)&&(g.n==1))∧∃m,H'=H.up m:=by
 refine QkW λq=>?_;obtain⟨⟨k,⟨ah,ai⟩,⟨⟨aa,ab⟩,⟨ae,ag⟩,sc,d,sz⟩,n⟩,bits,ac⟩:=g;simp only[Gv.cells,QcF,Qb,simprocAttr];cases ad:decide (0<bits)<;>simp only[Qb,simprocAttr,Qjy]
 all_goals exact .ext q ((Ext.refl H).push _) ⟨by simp,_,rfl⟩
def QK7 (c:Int)(f:FuncId)(ab:(f,c)∈[(111,(3:Int)),(112,(4:Int)),(113,(5:Int)),(114,(6:Int)),(115,(7:Int))])(g:Gv)(H:Qa):Qe Pg f [.agg g.cells.toArray] H λu H'=>u=.bool (Ys g c)∧∃m,H'=H.up m:=by
 have aa:=Qe2 g c;obtain⟨ao,e0⟩:∃v,Ys g c=v:=⟨_,rfl⟩;rw[e0]at aa ⊢;clear e0;obtain⟨⟨k,⟨am,an⟩,⟨⟨ad,ae⟩,⟨ai,ak⟩,sc,d,sz⟩,n⟩,bits,ag⟩:=g;simp only[Gv.cells]at aa;simp only[LK,LB,Ns,NN]at ab;rcases ab with⟨rfl,rfl⟩ | ⟨rfl,rfl⟩ | ⟨rfl,rfl⟩ | ⟨rfl,rfl⟩ | ⟨rfl,rfl⟩
 all_goals
  first | refine Qmr λq=>?_ | refine Qms λq=>?_ | refine Qmt λq=>?_ | refine Qmu λq=>?_ | refine Qmv λq=>?_
  simp only[Gv.cells,QdC,QdD,QdE,QdF,QdG,Qb,simprocAttr];refine(aa _).w ?_;rintro _ _ ac ah ⟨rfl,aj,rfl⟩;simp only[Qf,Q8]at ac;simp only[Qb,simprocAttr,Qkw,Qkx,Qky,Qkz,QkA];exact .ext q (((Ext.refl H).push _).up (by simp only[Qf];omega)) ⟨by simp,_,rfl⟩
def QK8 (c:Int)(f:FuncId)(ab:(f,c)∈[(125,(0:Int)),(126,(2:Int)),(127,(4:Int)),(128,(8:Int)),(129,(16:Int)),(130,(32:Int))])(g:Gv)(H:Qa):Qe Pg f [.agg g.cells.toArray] H λu H'=>u=.bool (VQ g c)∧∃m,H'=H.up m:=by
 have aa:=Qt4 g c;obtain⟨ao,e0⟩:∃v,VQ g c=v:=⟨_,rfl⟩;rw[e0]at aa ⊢;clear e0;obtain⟨⟨k,⟨am,an⟩,⟨⟨ad,ae⟩,⟨ai,ak⟩,sc,d,sz⟩,n⟩,bits,ag⟩:=g;simp only[Gv.cells]at aa;simp only[LK,LB,Ns,NN]at ab;rcases ab with⟨rfl,rfl⟩ | ⟨rfl,rfl⟩ | ⟨rfl,rfl⟩ | ⟨rfl,rfl⟩ | ⟨rfl,rfl⟩ | ⟨rfl,rfl⟩
 all_goals
  first | refine QkI λq=>?_ | refine QkJ λq=>?_ | refine QkK λq=>?_ | refine QkL λq=>?_ | refine QkM λq=>?_ | refine QkN λq=>?_
  simp only[Gv.cells,Qcr,Qcs,Qct,Qcu,Qcv,Qcw,Qb,simprocAttr];refine(aa _).w ?_;rintro _ _ ac ah ⟨rfl,aj,rfl⟩;simp only[Qf,Q8]at ac;simp only[Qb,simprocAttr,Qjk,Qjl,Qjm,Qjn,Qjo,Qjp];exact .ext q (((Ext.refl H).push _).up (by simp only[Qf];omega)) ⟨by simp,_,rfl⟩
def QK9 (c z:Int)(f:FuncId)(ac:(f,c,z)∈[(118,(3:Int),(2:Int)),(119,(4:Int),(4:Int)),(120,(5:Int),(8:Int)),(121,(6:Int),(4:Int)),(122,(6:Int),(8:Int)),(123,(6:Int),(16:Int)),(124,(7:Int),(32:Int))])(g:Gv)(H:Qa):Qe Pg f [.agg g.cells.toArray] H λu H'=>u=.bool (Ys g c||VQ g z)∧∃m,H'=H.up m:=by
 have aa:=Qe2 g c;obtain⟨ag,e0⟩:∃v,Ys g c=v:=⟨_,rfl⟩;rw[e0]at aa ⊢;have ab:=Qt4 g z;obtain⟨au,e1⟩:∃v,VQ g z=v:=⟨_,rfl⟩;rw[e1]at ab ⊢;clear e0 e1;obtain⟨⟨k,⟨aq,ar⟩,⟨⟨ah,ai⟩,⟨an,ap⟩,sc,d,sz⟩,n⟩,bits,aj⟩:=g;simp only[Gv.cells]at aa ab;simp only[LK,LB,Ns,NN]at ac;rcases ac with⟨rfl,rfl,rfl⟩ | ⟨rfl,rfl,rfl⟩ | ⟨rfl,rfl,rfl⟩ | ⟨rfl,rfl,rfl⟩ | ⟨rfl,rfl,rfl⟩ | ⟨rfl,rfl,rfl⟩ | ⟨rfl,rfl,rfl⟩
 all_goals
  first | refine QkB λq=>?_ | refine QkC λq=>?_ | refine QkD λq=>?_ | refine QkE λq=>?_ | refine QkF λq=>?_ | refine QkG λq=>?_ | refine QkH λq=>?_
  simp only[Gv.cells,Qck,Qcl,Qcm,Qcn,Qco,Qcp,Qcq,Qb,simprocAttr];refine(aa _).w ?_;rintro _ _ ad ak ⟨rfl,ao,rfl⟩;simp only[Qf,Q8]at ad;cases ag with
  | true=>
   simp only[Qb,simprocAttr,Qbl,Qbm,Qbn,Qbo,Qbp,Qbq,Qbr];exact .ext q (((Ext.refl H).push _).up (by simp only[Qf];omega)) ⟨by simp,_,rfl⟩
  | false=>
   simp only[Qb,simprocAttr];refine(ab _).w ?_;rintro _ _ ae am ⟨rfl,k1,rfl⟩;simp only[Q8]at ae;simp only[Qb,simprocAttr,Qbl,Qbm,Qbn,Qbo,Qbp,Qbq,Qbr];exact .ext q ((((Ext.refl H).push _).up (by simp only[Qf];omega)).up (by simp only[Q8];omega)) ⟨by simp,_,rfl⟩
def QLa (c:Int)(f:FuncId)(aa:(f,c)∈[(131,(8:Int)),(133,(16:Int)),(134,(32:Int)),(136,(64:Int))])(g:Gv)(H:Qa):Qe Pg f [.agg g.cells.toArray] H λu H'=>u=.bool (g.bits==c)∧∃m,H'=H.up m:=by
 obtain⟨⟨k,⟨ah,ai⟩,⟨⟨ab,ac⟩,⟨ae,ag⟩,sc,d,sz⟩,n⟩,bits,ad⟩:=g;simp only[LK,LB,Ns,NN]at aa;rcases aa with⟨rfl,rfl⟩ | ⟨rfl,rfl⟩ | ⟨rfl,rfl⟩ | ⟨rfl,rfl⟩
 all_goals
  first | refine QkO λq=>?_ | refine QkQ λq=>?_ | refine QkR λq=>?_ | refine QkT λq=>?_
  simp only[Gv.cells,Qcx,Qcz,QcA,QcC,Qb,simprocAttr];simp only[Qjq,Qjs,Qjt,Qjv];exact .ext q ((Ext.refl H).push _) ⟨rfl,_,rfl⟩
def QqM (c n:Int)(H:Qa):Qe Pg 106 [.Z c,.Z n] H λu H'=>∃p q,u=.agg #[.func (.func 107) #[] #[.P p,.P q]]∧Ext H H'∧H'.get p=some (.C [.Z c] 3)∧H'.get q=some (.C [.Z n] 3)∧p<H'.y∧q<H'.y:=by
 refine Qmo λaa=>?_;simp only[Qdz,Qb,simprocAttr,QhM,Qqv,Qku];have hx:∀b,Ext H ((((H.push (.C [.Z c] 3)).push (.C [.Z n] 3)).push (.C [.nilFunc] 153)).set (H.y+1+1) b):=λb=>((((Ext.refl H).push _).push _).push _).set (by omega) _;refine .mk (hx _).y ⟨H.y,H.y+1,rfl,hx _,?_,?_,by simp only[QR,Qf];omega,by simp only[QR,Qf];omega⟩;·rw[Qj,Le (by omega),Qc,Le (by simp only[Qf];omega),Qc,Le (by simp only[Qf];omega),Qc,Lc rfl]
 rw[Qj,Le (by omega),Qc,Le (by simp only[Qf];omega),Qc,Lc (by simp only[Qf])]
def QGc (g:Gv)(c n:Int)(p q:Nat)(H:Qa)(ab:H.get p=some (.C [.Z c] 3))(ac:H.get q=some (.C [.Z n] 3)):Qe Pg 107 [.agg g.cells.toArray,.P p,.P q] H λu H'=>u=.bool (Ys g c&&(g.a.r.n==n))∧Ext H H':=by
 refine Qjj λad=>?_;have aa:=Qe2 g c;obtain⟨v,ev⟩:∃v,Ys g c=v:=⟨_,rfl⟩;rw[ev]at aa ⊢;clear ev;have au:=ad.lt ab;have av:=ad.lt ac;have an:¬p=H.y:=by omega
 have ao:¬q=H.y:=by omega
 obtain⟨⟨k,⟨ap,aq⟩,⟨⟨ae,ag⟩,⟨aj,am⟩,sc,d,sz⟩,ak⟩,bits,ah⟩:=g;simp only[Gv.cells]at aa;simp only[Gv.cells,Qbk,Qb,simprocAttr,an,ab];refine(aa _).w ?_;rintro _ _ ai ar ⟨rfl,k1,rfl⟩;simp only[Qf,Q8]at ai;have hx:=((Ext.refl H).push (.C [.Z k,.Z ap,.Z aq,.Z ae,.Z ag,.Z aj,.Z am,.Z sc,.Z d,.Z sz,.Z ak,.Z bits,.Z ah] 150)).up (m:=k1) (by simp only[Qf];omega);cases v with
 | false=>
  simp only[Qb,simprocAttr,Qat];exact .mk hx.y ⟨by simp,hx⟩
 | true=>
  simp only[Qb,simprocAttr,ao,ac,Qat];exact .mk hx.y ⟨by simp,hx⟩
def Zq (s:Nat)(g:Gv):Bool:=
 match s with
 | 0=>false
 | 1=>Ys g 1||Ys g 2 | 2=>Ys g 3 | 3=>Ys g 4 | 4=>Ys g 5 | 5=>Ys g 6 | 6=>Ys g 7
 | 7=>Ys g 1||Ys g 2||VQ g 1 | 8=>Ys g 3||VQ g 2 | 9=>Ys g 4||VQ g 4 | 10=>Ys g 5||VQ g 8
 | 11=>Ys g 6||VQ g 4 | 12=>Ys g 6||VQ g 8 | 13=>Ys g 6||VQ g 16 | 14=>Ys g 7||VQ g 32
 | 15=>VQ g 0 | 16=>VQ g 4 | 17=>VQ g 8 | 18=>VQ g 16 | 19=>VQ g 32
 | 20=>(g.bits==8)
 | 21=>decide (8<g.bits)&&decide (-128<=g.n)&&decide (g.n<=127)
 | 22=>(g.bits==16) | 23=>(g.bits==32)
 | 24=>(g.bits==64)&&decide (-2147483648<=g.n)&&decide (g.n<=2147483647)
 | 25=>(g.bits==64)
 | 26=>(g.a.k==4)&&decide (-128<=g.a.n)&&decide (g.a.n<=127)
 | 27=>(g.a.k==4)
 | 28=>Ys g 1&&(g.a.r.n==0) | 29=>Ys g 3&&(g.a.r.n==0) | 30=>Ys g 4&&(g.a.r.n==0) | 31=>Ys g 5&&(g.a.r.n==0) | 32=>Ys g 1&&(g.a.r.n==1)
 | 33=>decide (0<g.bits)&&(g.n==1)
 | 34=>VQ g 2
 | _=>false
def Qt5 (H:Qa)(v:Value)(s:Nat):Prop:=∃ (f:FuncId) (ys:List Value),v=.func (.func f) #[] ys.toArray∧∀ (g:Gv) (H2:Qa),Ext H H2->Qe Pg f ([.agg g.cells.toArray]++ys) H2 λu H3=>u=.bool (Zq s g)∧Ext H2 H3
def QbW {f:FuncId}{s:Nat}(H:Qa)(q:∀ (g:Gv) (H:Qa),Qe Pg f [.agg g.cells.toArray] H λu H'=>u=.bool (Zq s g)∧∃m,H'=H.up m):Qt5 H (.func (.func f) #[] #[]) s:=by
 refine⟨f,[],rfl,λg H2 _=>?_⟩;intro ae;obtain⟨v,H3,ab,aa,ac,ad,m,rfl⟩:=q g H2 ae;exact⟨v,_,ab,aa,ac,ad,(Ext.refl H2).up aa⟩
def Qek {H H':Qa}{p q:Nat}{c n:Int}{s:Nat}(hx:Ext H H')(ab:H.get p=some (.C [.Z c] 3))(ac:H.get q=some (.C [.Z n] 3))(ad:p<H.y)(ae:q<H.y)(e:∀g,Zq s g=(Ys g c&&(g.a.r.n==n))):Qt5 H' (.func (.func 107) #[] #[.P p,.P q]) s:=by
 refine⟨107,[.P p,.P q],rfl,λg H2 aa=>?_⟩;rw[e g];exact QGc g c n p q H2 (by rw[(hx.trans aa).get _ ad];exact ab) (by rw[(hx.trans aa).get _ ae];exact ac)
def QGd (H:Qa):Qe Pg 91 [] H λu H'=>∃ (b:Nat) (cs:List Value),u=.S b 35 35∧Ext H H'∧H.y<=b∧H'.get b=some (.C cs 153)∧cs.length=35∧∀s,s<35->∃v,cs[s]? = some v∧Qt5 H' v s:=by
 refine QpC λaL=>?_;simp only[QgK,Qb,simprocAttr,QhM,QaZ];refine(QqM 1 0 H).w ?_;rintro _ H1 _ aM ⟨p0,aV,rfl,aa,an,au,az,aE⟩;simp only[Qb,simprocAttr,QaZ];refine(QqM 3 0 H1).w ?_;rintro _ H2 _ aN ⟨aR,r1,rfl,ab,ao,av,aA,aF⟩;simp only[Qb,simprocAttr,QaZ];refine(QqM 4 0 H2).w ?_;rintro _ H3 _ aO ⟨aS,r2,rfl,ac,ap,aw,aB,aG⟩;simp only[Qb,simprocAttr,QaZ];refine(QqM 5 0 H3).w ?_;rintro _ H4 _ aP ⟨aT,r3,rfl,ad,aq,ax,aC,aH⟩;simp only[Qb,simprocAttr,QaZ];refine(QqM 1 1 H4).w ?_;rintro _ H5 _ aQ ⟨aU,r4,rfl,ae,ar,ay,aD,aI⟩;simp only[Qb,simprocAttr,QhM];have aW:=aa;have ah:=(((aa.trans ab).trans ac).trans ad).trans ae;simp only[Qn7,Qd,simprocAttr];have ag:=ah.push;refine .mk (ag _).y ⟨H5.y,_,rfl,ag _,ah.y,by rw[Qc,Lc rfl],rfl,λs aK=>?_⟩;generalize q:H5.push _=K;have am:Ext H5 K:=by rw[<- q];exact(Ext.refl H5).push _
 clear q;have ak:=ae.trans am;have aj:=ad.trans ak;have ai:=ac.trans aj;have aJ:=ab.trans ai;rcases s with _ | _ | _ | _ | _ | _ | _ | _ | _ | _ | _ | _ | _ | _ | _ | _ | _ | _ | _ | _ | _ | _ | _ | _ | _ | _ | _ | _ | _ | _ | _ | _ | _ | _ | _ | s
 all_goals first
  | exact⟨_,rfl,QbW K (QK7 _ _ (by decide))⟩
  | exact⟨_,rfl,QbW K (QK8 _ _ (by decide))⟩
  | exact⟨_,rfl,QbW K (QK9 _ _ _ (by decide))⟩
  | exact⟨_,rfl,QbW K (QLa _ _ (by decide))⟩
  | exact⟨_,rfl,QbW K (by first | exact QK4 | exact QK5 | exact QK6 | exact QKf | exact QKg | exact QKh | exact QKi | exact QKj)⟩
  | exact⟨_,rfl,by first | exact Qek aJ an au az aE (λ_=>rfl) | exact Qek ai ao av aA aF (λ_=>rfl) | exact Qek aj ap aw aB aG (λ_=>rfl) | exact Qek ak aq ax aC aH (λ_=>rfl) | exact Qek am ar ay aD aI (λ_=>rfl)⟩
  | omega
def XI (ib:Int×Bool)(a:Ar):Gv:=if a.k=3 then⟨a,ib.1,(W4 a.n ib.1 ib.2).1⟩ else⟨a,0,0⟩
def QfR (ib:Int×Bool)(a:Ar)(s:Int):Bool:=(!(a.k==3)||((W4 a.n ib.1 ib.2).2==0))&&Zq s.toNat (XI ib a)
def Qe3 (f:Fm)(op:Int)(l:List Ar):Bool:=(f.op==op)&&(f.shapes.length==l.length)&&(Qhw f==0)&&(QZ op l==0)&&(List.range l.length).all λi=>QfR (Qy op l) (l.getD i WN) (f.shapes.getD i 0)
section
variable {x:Lf} {op:Int} {va:Value} {l:List Ar} {H:Qa}
abbrev KF (H:Qa)(r:Bool):Env->Qa->Prop:=Rt Pg Tryz.f70 H λv H'=>v=.bool r∧Ext H H'
structure FtF (H H':Qa) (x:Lf) (op:Int) (va:Value) (A:Env):Prop where
 xt:Ext H H'
 w:H'.Wf
 g2:H'.get H.y=some (.C x.cells 57)
 g3:H'.get (H.y+1)=some (.C [.Z op,va] 26)
 lt:H.y+2<=H'.y
 r2:A 2=.P H.y
 r3:A 3=.P (H.y+1)
def FtF.go {H' H'':Qa}{A B:Env}(h:FtF H H' x op va A)(hx:Ext H' H'')(q:H''.Wf)(e2:B 2=A 2)(e3:B 3=A 3):FtF H H'' x op va B:=
 ⟨h.xt.trans hx,q,by rw[hx.get _ (by have:=h.lt;omega)];exact h.g2,by rw[hx.get _ (by have:=h.lt;omega)];exact h.g3,by have:=h.lt;have:=hx.y;omega,e2.trans h.r2,e3.trans h.r3⟩
def QKk {W:Bool}{i tb p:Nat}{cs:List Value}{v:Value}{g:Gv}{H0:Qa}{A:Env}{H1:Qa}{E:Nat->Env->Qa->Prop}{K:Env->Qa->Prop}(ar:H.Wf)(hx:x.At H)(ai:FtF H H1 x op va A)(hi:i<x.f.shapes.length)(aC:1<=x.f.shapes.getD i 0∧x.f.shapes.getD i 0<=34)(ay:A 7=.S tb 35 35)(r8:A 8=.Z i)(ao:H1.get tb=some (.C cs 153))(ak:cs[(x.f.shapes.getD i 0).toNat]? = some v)(aj:Qt5 H0 v (x.f.shapes.getD i 0).toNat)(ag:Ext H0 H1)(ax:A 10=.P p)(am:H1.get p=some (.C g.cells 150))(ae:Zq (x.f.shapes.getD i 0).toNat g=false->W=false)
  (ah:Zq (x.f.shapes.getD i 0).toNat g=true->∀ (B:Env) (H2:Qa),Ext H1 H2->H2.Wf->B 2=A 2->B 3=A 3->B 5=A 5->B 6=A 6->B 7=A 7->B 42=A 42->B 43=A 43->B 44=A 44->K B H2):
  Qm Pg V3 ⟨KF H W,E⟩ K A H1:=by
 obtain⟨q,aD,g2,g3,aA,r2,r3⟩:=id ai;obtain⟨a1,ac,e1,aw⟩:=id hx.2.2.1;have az:x.cells[1]? = some (.slice a1 x.f.shapes.length ac):=by rw[<- e1];rfl
 obtain⟨b,e,ro,rfl,ab⟩:=aw (by omega);have an:H1.get b=some (.cells (ints x.f.shapes) e ro):=by rw[q.get b (ar.lt ab)];exact ab
 have d1:(0:Int)<=i∧(i:Int)<x.f.shapes.length:=by omega
 have d3:(i:Int).toNat=i:=by omega
 have aq:(ints x.f.shapes)[i]? = some (.Z (x.f.shapes.getD i 0)):=by
  simp[ints,La hi]
 generalize x.f.shapes.getD i 0=s at *;have d4:(0:Int)<=s∧s<((35:Nat):Int):=by omega
 have ad:g.cells.take 13=g.cells:=rfl;have av:13<=g.cells.length:=Lb _;obtain⟨f,ys,rfl,ap⟩:=aj;simp only[V3,sxA,sxB,Nat.reduceBEq,Nat.reduceEqDiff,reduceCtorEq,mxA,mxB,Nat.reduceAdd,reduceIte,Nat.reduceLeDiff,splice,r2,ay,r8,ax,g2,az,an,d1,d3,aq,ao,d4,ak,am,ad,Qzd];refine⟨av,?_⟩;refine(show Qe Pg f (.agg g.cells.toArray::ys) H1 _ from ap g H1 ag).w ?_;rintro _ H2 aB au ⟨rfl,aa⟩;cases c:Zq s.toNat g with
 | false=>
  simp only[Qb,simprocAttr,XY];exact .mk (q.trans aa).y ⟨by rw[ae c],q.trans aa⟩
 | true=>
  simp only[Qb,simprocAttr];refine ah c _ H2 aa au ?_ ?_ ?_ ?_ ?_ ?_ ?_ ?_
  all_goals simp only[Qd,simprocAttr]
def QLb (aC:H.Wf)(hx:x.At H)(aJ:Wg H va l)(bJ:l.length<=1000)(bB:∀a∈l,I64 a.n)(bM:Qhw x.f=0)(bV:x.f.shapes.length=l.length){W:Bool}(aF:W=(List.range l.length).all λi=>QfR (Qy op l) (l.getD i WN) (x.f.shapes.getD i 0)){A:Env}{H1:Qa}(aI:FtF H H1 x op va A):
  Qm Pg V4 ⟨KF H W,X4⟩ (KF H W) A H1:=by
 obtain⟨bO,ce,g2,g3,bX,r2,r3⟩:=id aI;obtain⟨a0,cap,rfl⟩:=Xt aJ;simp only[V4,Qb,simprocAttr,r3,g3,List.take];refine(QcQ op _ l H1 (aJ.ext aC bO) bJ).w ?_;rintro _ _ bL cf ⟨rfl,k,rfl⟩;have bh:Ext H1 (H1.up k):=(Ext.refl H1).up bL;obtain⟨ib,bu⟩:∃ib,ib=Qy op l:=⟨_,rfl⟩;rw[<- bu]at aF ⊢;simp only[Qb,simprocAttr];refine(QGd (H1.up k)).w ?_;rintro _ H3 bY aN ⟨tb,cs,rfl,bi,cc,aM,bU,bD⟩;obtain⟨cg,_,bT,bz,bZ,_,_⟩:=aI.go (bh.trans bi) aN (B:=A) rfl rfl;have bj:=aN.lt aM;simp only[Qb,simprocAttr,r3,bz];refine Qu (λm A' H'=>∃i:Nat,i<=l.length∧m=l.length - i∧FtF H H' x op (.slice a0 l.length cap) A'∧Ext H3 H'∧A' 5=.Z ib.1∧A' 6=.bool ib.2∧A' 7=.S tb 35 35∧A' 42=.slice a0 l.length cap∧A' 43=.Z l.length∧A' 44=.Z i∧∀j,j<i->QfR ib (l.getD j WN) (x.f.shapes.getD j 0)=true) l.length ?_ ?_
 ·refine⟨0,L7 _,by omega,aI.go (bh.trans bi) aN ?_ ?_,Ext.refl _,?_,?_,?_,?_,?_,?_,λj h=>by omega⟩
  all_goals simp only[Qd,simprocAttr]
  all_goals rfl
 rintro m A' H' ⟨i,hi,rfl,aA,ar,aQ,bp,aR,bn,bo,aE,aV⟩;obtain⟨au,bN,bR,bS,bW,ch,ci⟩:=id aA;simp only[Qfs,Qb,simprocAttr,bo,aE];refine Qg (λaa=>?_) (λaa=>?_)
 ·have aa:i<l.length:=by have:=Lg aa;omega
  obtain⟨a,aK⟩:∃a,l[i]? = some a:=⟨_,La aa⟩;obtain⟨bP,bQ,e0,b9⟩:=aJ;cases e0;obtain⟨b,e,ro,rfl,aX⟩:=b9 (by omega);have bG:H'.get b=some (.cells (Ql l) e ro):=by rw[au.get b (aC.lt aX)];exact aX
  have ba:=XU l i a aK;have bK:i * 11+11<=(Ql l).length:=by rw[Wb];omega
  have d1:(0:Int)<=i∧(i:Int)<l.length:=by omega
  have d3:(i:Int).toNat=i:=by omega
  have bF:l.getD i WN=a:=by rw[LX,aK];rfl
  have bC:I64 a.n:=bB a (Ln aK);have bm:=Vz a.n ib.1 ib.2 bC;have q:QfR ib (l.getD i WN) (x.f.shapes.getD i 0)=((!(a.k==3)||((W4 a.n ib.1 ib.2).2==0))&&Zq (x.f.shapes.getD i 0).toNat (XI ib a)):=by rw[bF];rfl
  have aZ:=QBn bM i (by omega);obtain⟨an,aG⟩:∃an,an=XI ib a:=⟨_,rfl⟩;rw[<- aG]at q;obtain⟨am,⟨ax,ay⟩,⟨⟨ap,aq⟩,⟨av,aw⟩,sc,d,sz⟩,n⟩:=a;simp only[Ar.cells]at ba;simp only at q bm;simp only[Qfr,Qb,simprocAttr,bn,aE,d1,d3,bG,ba];refine⟨bK,?_⟩;generalize ao:(Qa.set (Qa.push (Qa.set (Qa.push H' _) _ _) _) _ _)=H4;have ab:Ext H' H4:=by
   rw[<- ao];refine Ext.set (Ext.push (Ext.set (Ext.push (Ext.refl H') _) ?_ _) _) ?_ _
   all_goals omega
  have bd:H4.Wf:=by
   rw[<- ao];refine Qa.Wf.set (b0:=.C [.Z 0,.Z 0,.Z 0,.Z 0,.Z 0,.Z 0,.Z 0,.Z 0,.Z 0,.Z 0,.Z 0,.Z 0,.Z 0] 150) (Qa.Wf.push (bN.push _ |>.set (b0:=.C [.Z 0,.Z 0,.Z 0,.Z 0,.Z 0,.Z 0,.Z 0,.Z 0,.Z 0,.Z 0,.Z 0] 50) (by rw[Qc,Lc rfl]) _) _) (by rw[Qc];exact Lc rfl) _
  have b7:H4.get H'.y=some (.C [.Z am,.Z ax,.Z ay,.Z ap,.Z aq,.Z av,.Z aw,.Z sc,.Z d,.Z sz,.Z n] 50):=by
   rw[<- ao,Qj,Le (by omega),Qc,Le (by simp only[QR,Qf];omega),Qj,Lc rfl]
  have aH:H4.get (H'.y+1)=some (.C [.Z am,.Z ax,.Z ay,.Z ap,.Z aq,.Z av,.Z aw,.Z sc,.Z d,.Z sz,.Z n,.Z 0,.Z 0] 150):=by
   rw[<- ao,Qj,Lc rfl]
  have ca:H'.y+2<=H4.y:=by rw[<- ao];simp only[QR,Qf];omega
  clear ao;have aW:∀ (B:Env) (H5:Qa),QfR ib (l.getD i WN) (x.f.shapes.getD i 0)=true->Ext H' H5->H5.Wf->B 2=A' 2->B 3=A' 3->B 5=A' 5->B 6=A' 6->B 7=A' 7->B 42=A' 42->B 43=A' 43->B 44=.Z ((i+1:Nat):Int)->Qvj (λm A' H'=>∃i:Nat,i<=l.length∧m=l.length - i∧FtF H H' x op (.S b l.length cap) A'∧Ext H3 H'∧A' 5=.Z ib.1∧A' 6=.bool ib.2∧A' 7=.S tb 35 35∧A' 42=.S b l.length cap∧A' 43=.Z l.length∧A' 44=.Z i∧∀j,j<i->QfR ib (l.getD j WN) (x.f.shapes.getD j 0)=true) (l.length - i) B H5:=by
   intro B H5 bE e1 e2 ac ad ai aj ak ae ag ah;refine⟨l.length - (i+1),by omega,i+1,by omega,rfl,aA.go e1 e2 ac ad,ar.trans e1,ai.trans aQ,aj.trans bp,ak.trans aR,ae.trans bn,ag.trans bo,ah,λj aY=>?_⟩
   by_cases h:j=i;·rw[h];exact bE
   exact aV j (by omega)
  have aT:IntKind.i64.wrap ((i:Int)+1)=((i+1:Nat):Int):=by rw[w64 (by unfold I64;omega)];omega
  have aL:QfR ib (l.getD i WN) (x.f.shapes.getD i 0)=false->W=false:=λh=>by rw[aF];exact KJ aa h
  obtain⟨tv,bc,aU⟩:=bD (x.f.shapes.getD i 0).toNat (by omega);have bA:∀B:Env,B 2=A' 2->B 3=A' 3->FtF H H4 x op (.S b l.length cap) B:=λB e2 e3=>aA.go ab bd e2 e3;have bH:H4.get tb=some (.C cs 153):=((ar.trans ab).get tb bj).trans aM;cases c:am==3 with
  | false=>
   have az:an=⟨⟨am,⟨ax,ay⟩,⟨⟨ap,aq⟩,⟨av,aw⟩,sc,d,sz⟩,n⟩,0,0⟩:=by rw[aG,XI,Le (by simpa using c)]
   rw[c,LM,N1,LJ]at q;simp only[Qb,simprocAttr];refine QKk (H0:=H3) (g:=an) (p:=H'.y+1) (i:=i) aC hx (bA _ ?_ ?_) (by omega) aZ (tb:=tb) (cs:=cs) (v:=tv) ?_ ?_ bH bc aU (ar.trans ab) ?_ (by rw[az];exact aH) (λh=>aL (q.trans h)) ?_
   all_goals (try (simp only[Qd,simprocAttr,aR];done))
   intro h B H5 e1 e2 ac ad ai aj ak ae ag ah;simp only[Qd,simprocAttr]at ac ad ai aj ak ae ag ah;simp only[Qb,simprocAttr,ah,aE,aT];refine aW _ H5 (q.trans h) (ab.trans e1) e2 ?_ ?_ ?_ ?_ ?_ ?_ ?_ ?_
   all_goals simp only[Qd,simprocAttr,ac,ad,ai,aj,ak,ae,ag]
  | true=>
   have az:an=⟨⟨am,⟨ax,ay⟩,⟨⟨ap,aq⟩,⟨av,aw⟩,sc,d,sz⟩,n⟩,ib.1,(W4 n ib.1 ib.2).1⟩:=by rw[aG,XI,Lc (by simpa using c)]
   rw[c,L8,Nt]at q;simp only[Qfq,Qb,simprocAttr,b7,aQ,bp];refine(bm H4).w ?_;rintro _ H4' cb bg ⟨rfl,bq⟩;rw[bq];obtain⟨aO,bw⟩:∃aO,aO=(W4 n ib.1 ib.2).1:=⟨_,rfl⟩;obtain⟨aP,bx⟩:∃aP,aP=(W4 n ib.1 ib.2).2:=⟨_,rfl⟩;rw[<- bw]at az ⊢;rw[<- bx]at q ⊢;simp only[Qb,simprocAttr];cases aS:aP==0 with
   | false=>
    simp only[Qb,simprocAttr,XY];exact .mk (au.trans ab).y ⟨by rw[aL (by rw[q,aS];rfl)],au.trans ab⟩
   | true=>
    rw[aS,LJ]at q;simp only[Qb,simprocAttr,aQ,aH];generalize aB:Qa.set (Qa.set H4 _ _) _ _=H6;have aD:Ext H' H6:=by
     rw[<- aB];refine Ext.set (Ext.set ab ?_ _) ?_ _
     all_goals omega
    have bg:H6.Wf:=by
     rw[<- aB];exact Qa.Wf.set (b0:=.C _ 150) (Qa.Wf.set bd aH _) (by rw[Qj,Lc rfl]) _
    have b8:H6.get (H'.y+1)=some (.C [.Z am,.Z ax,.Z ay,.Z ap,.Z aq,.Z av,.Z aw,.Z sc,.Z d,.Z sz,.Z n,.Z ib.1,.Z aO] 150):=by
     rw[<- aB,Qj,Lc rfl]
    clear aB;have bI:H6.get tb=some (.C cs 153):=((ar.trans aD).get tb bj).trans aM;refine QKk (H0:=H3) (g:=an) (p:=H'.y+1) (i:=i) aC hx (aA.go aD bg ?_ ?_) (by omega) aZ (tb:=tb) (cs:=cs) (v:=tv) ?_ ?_ bI bc aU (ar.trans aD) ?_ (by rw[az];exact b8) (λh=>aL (q.trans h)) ?_
    all_goals (try (simp only[Qd,simprocAttr,aR];done))
    intro h B H5 e1 e2 ac ad ai aj ak ae ag ah;simp only[Qd,simprocAttr]at ac ad ai aj ak ae ag ah;simp only[Qb,simprocAttr,ah,aE,aT];refine aW _ H5 (q.trans h) (aD.trans e1) e2 ?_ ?_ ?_ ?_ ?_ ?_ ?_ ?_
    all_goals simp only[Qd,simprocAttr,ac,ad,ai,aj,ak,ae,ag]
 have aa:i=l.length:=by have:=Ll aa;omega
 subst aa;have br:W=true:=by rw[aF];exact GS λj aY=>aV j aY
 simp only[Qb,simprocAttr,XY];exact .mk au.y ⟨by rw[br],au⟩
def QLc (ac:H.Wf)(hx:x.At H)(ap:x.Fr 0)(ai:Wg H va l)(aj:l.length<=1000)(ah:∀a∈l,I64 a.n)(aq:x.f.shapes.length=l.length){W:Bool}(aa:W=((Qhw x.f==0)&&(QZ op l==0)&&(List.range l.length).all λi=>QfR (Qy op l) (l.getD i WN) (x.f.shapes.getD i 0))){A:Env}{H1:Qa}(ab:FtF H H1 x op va A):
  Qm Pg V5 ⟨KF H W,X4⟩ (KF H W) A H1:=by
 obtain⟨ad,aB,g2,g3,az,r2,r3⟩:=id ab;have am:x.cells.take 10=x.cells:=rfl;have ax:10<=x.cells.length:=Lb _;simp only[V5,Qb,simprocAttr,r2,g2,am];refine⟨ax,?_⟩;refine(QrP x H1 (hx.ext ac ad) ap).w ?_;rintro _ _ ar av ⟨rfl,k,rfl⟩;have ak:Ext H1 (H1.up k):=(Ext.refl H1).up ar;obtain⟨ae,_,ay,an,aA,_,_⟩:=ab.go ak av rfl rfl;cases c:Qhw x.f==0 with
 | false=>
  simp only[Qb,simprocAttr,c,XY];exact .mk ae.y ⟨by rw[aa,c];rfl,ae⟩
 | true=>
  simp only[Qb,simprocAttr,r3,an,c,List.take];refine(QeP op va l _ (ai.ext ac ae) aj ah).w ?_;rintro _ _ au aw ⟨rfl,k2,rfl⟩;have ag:Ext H1 ((H1.up k).up k2):=ak.up au;have ao:∀B:Env,B 2=A 2->B 3=A 3->FtF H ((H1.up k).up k2) x op va B:=λB e2 e3=>ab.go ag aw e2 e3;cases q:QZ op l==0 with
  | false=>
   simp only[Qb,simprocAttr,q,XY];exact .mk (ad.trans ag).y ⟨by rw[aa,c,q];rfl,ad.trans ag⟩
  | true=>
   simp only[Qb,simprocAttr,q];refine QLb ac hx ai aj ah (L0.1 c) aq (by rw[aa,c,q];rfl) (ao _ ?_ ?_)
   all_goals simp only[Qd,simprocAttr]
end
def Qt6 {x:Lf}{op:Int}{va:Value}{l:List Ar}(H:Qa)(hx:x.At H)(aq:x.Fr 0)(ai:Wg H va l)(ar:l.length<=1000)(ap:∀a∈l,I64 a.n):
  Qe Pg 70 [.agg x.cells.toArray,.agg #[.Z op,va]] H λv H'=>v=.bool (Qe3 x.f op l)∧Ext H H':=by
 refine Qrf λak=>?_;have an:(Value.agg x.cells.toArray).cells.toList=x.cells:=rfl;have az:x.cells.take 10=x.cells:=rfl;have ax:x.cells[0]? = some (.Z x.f.op):=rfl;have aB:10<=x.cells.length:=Lb _;obtain⟨a1,aa,e1⟩:=Xt hx.2.2.1;have ay:x.cells[1]? = some (.slice a1 x.f.shapes.length aa):=by rw[<- e1];rfl
 obtain⟨W,ad⟩:∃W,W=Qe3 x.f op l:=⟨_,rfl⟩;rw[<- ad];obtain⟨a0,cap,rfl⟩:=Xt ai;simp only[Qim,an,QbZ,simprocAttr];generalize ab:Qa.push H (.C x.cells 57)=H1;have g1:H1.get H.y=some (.C x.cells 57):=by rw[<- ab,Qc,Lc rfl]
 have aw:Ext H H1:=by rw[<- ab];exact(Ext.refl H).push _
 have aj:H1.y=H.y+1:=by rw[<- ab];rfl
 have au:H1.Wf:=by rw[<- ab];exact ak.push _
 clear ab;simp only[Qb,simprocAttr,aj];generalize q:Qa.push H1 _=H2;have ac:Ext H H2:=by rw[<- q];exact(aw.push _)
 have av:H2.Wf:=by rw[<- q];exact(au.push _)
 have ah:H2.get H.y=some (.C x.cells 57):=by rw[<- q,Qc,Le (by omega)];exact g1
 have ag:H2.get (H.y+1)=some (.C [.Z op,.slice a0 l.length cap] 26):=by rw[<- q,Qc,Lc (by omega)]
 have aA:H2.y=H.y+2:=by rw[<- q,Qf,aj]
 clear q;simp only[Qb,simprocAttr,g1,ag,ax];have ao:∀A:Env,A 2=.P H.y->A 3=.P (H.y+1)->FtF H H2 x op (.slice a0 l.length cap) A:=λA e2 e3=>⟨ac,av,ah,ag,by omega,e2,e3⟩;cases aa:x.f.op==op with
 | false=>
  simp only[Qb,simprocAttr,XY];exact .mk ac.y ⟨by rw[ad,Qe3,aa];rfl,ac⟩
 | true=>
  simp only[Qb,simprocAttr,ah,ag,ay];have am:((x.f.shapes.length:Int)==(l.length:Int))=(x.f.shapes.length==l.length):=by
   rw[Ni,L0,L0];omega
  rw[am];cases ae:x.f.shapes.length==l.length with
  | false=>
   simp only[Qb,simprocAttr,XY];exact .mk ac.y ⟨by rw[ad,Qe3,aa,ae];rfl,ac⟩
  | true=>
   simp only[Qb,simprocAttr];refine QLc ak hx aq ai ar ap (L0.1 ae) (by rw[ad,Qe3,aa,ae];rfl) (ao _ ?_ ?_)
   all_goals simp only[Qd,simprocAttr]
def tlN (f:Fm):Int:=if 0<=Qh f.slots 7 then tlF f - 1 else tlF f
def Qyj (f:Fm)(op:Int)(l:List Ar):Int:=if(l[(Qh f.slots 5).toNat]?.getD WN).k=3 then(W4 (l[(Qh f.slots 5).toNat]?.getD WN).n (Qy op l).1 (Qy op l).2).1 else(l[(Qh f.slots 5).toNat]?.getD WN).n
def isB (n:Int):Int:=IntKind.u8.wrap (IntKind.i64.wrap (16 * n))
def Jp (f:Fm)(op:Int)(l:List Ar):List Int:=(if 0<=Qh f.slots 5 then(ZE (Qyj f op l) (tlN f)).1 else[])++(if 0<=Qh f.slots 7 then[isB (l[(Qh f.slots 7).toNat]?.getD WN).r.n] else[])
def QzE (n sz:Int):(ZE n sz).1.length<=1000:=by
 unfold ZE;split;·simp
 split;·simp
 rename_i h _;have h:GA sz=true:=by simpa using h
 unfold GA at h;simp only[Nw,L0]at h;simp only[YY,Nn,BO];omega
section
variable {x:Lf} {op:Int} {va:Value} {l:List Ar} {H:Qa}
abbrev KT (H:Qa)(W:List Int):Env->Qa->Prop:=Rt Pg Tryz.f93 H λv H'=>Gx 1 5 H H' v W.length (bys W)∧Ext H H'
def QKl (au:H.Wf)(am:Wg H va l)(av:l.length<=1000){W w:List Int}{s:Int}(aw:s<l.length)(ax:w.length<=1000)(q:W=w++(if 0<=s then[isB (l[s.toNat]?.getD WN).r.n] else[])){A:Env}{H1:Qa}{v:Value}(aa:Ext H H1)(ag:H1.Wf)(g3:H1.get (H.y+1)=some (.C [.Z op,va] 26))(r3:A 3=.P (H.y+1))(ah:A 5=v)(ai:A 7=.Z s)(ae:Gx 1 5 H H1 v w.length (bys w)):
  Qm Pg Js ⟨KT H W,X4⟩ (KT H W) A H1:=by
 obtain⟨a0,cap,rfl,ak⟩:=am;simp only[Js,Qb,simprocAttr,ai];refine Qg (λh=>?_) (λh=>?_)
 ·have aj:0<=s:=Lg h;rw[Lc aj]at q;obtain⟨i,rfl⟩:∃i:Nat,s=i:=⟨s.toNat,by omega⟩;have ap:i<l.length:=by omega
  obtain⟨a,ab⟩:∃a,l[i]? = some a:=⟨_,La ap⟩;obtain⟨b,e,ro,rfl,ac⟩:=ak (by omega);have an:H1.get b=some (.cells (Ql l) e ro):=by rw[aa.get b (au.lt ac)];exact ac
  have aq:=QnO ab;have d1:(0:Int)<=i∧(i:Int)<l.length:=by omega
  have d3:(i:Int).toNat=i:=by omega
  have ao:(l[(i:Int).toNat]?.getD WN).r.n=a.r.n:=by rw[d3,ab];rfl
  rw[ao]at q;simp only[Qdu,Qb,simprocAttr,r3,ah,ai,g3,d1,d3,an,aq];refine V6 (ms:=[.int .u8 (isB a.r.n)]) (m:=1) (ae.go ag ((Ext.refl H1).push _)) (aa.push _) (ag.push _) (Qvk (by rw[Qc,Lc rfl];rfl)) rfl rfl (by omega) (by omega) ?_;intro ay H2 ar ad;simp only[Qb,simprocAttr,Qfv];have e2:W.length=w.length+1:=by rw[q,Lh,Bb]
  have e3:bys W=bys w++[.int .u8 (isB a.r.n)]:=by rw[q,bys,bys,N6];rfl
  exact .mk ad.x.y ⟨by rw[e2,e3];exact ar,ad.x⟩
 rw[Le (by have:=Ll h;omega),Na]at q;simp only[Qb,simprocAttr,ah,Qfv];exact .mk aa.y ⟨by rw[q];exact ae,aa⟩
def QKm (ab:H.Wf)(hx:x.At H)(ae:Wg H va l)(aj:l.length<=1000)(az:∀a∈l,I64 a.n)(aY:x.f.slots.length=l.length){W:List Int}(aa:W=Jp x.f op l){A:Env}{H1:Qa}(am:FtF H H1 x op va A)(aV:A 5=.slice none 0 0)(aq:A 6=.Z (tlN x.f))(ar:A 7=.Z (Qh x.f.slots 7)):
  Qm Pg Vf ⟨KT H W,X4⟩ (KT H W) A H1:=by
 obtain⟨aN,bg,g2,g3,aZ,r2,r3⟩:=id am;have au:x.cells.take 10=x.cells:=rfl;have aQ:10<=x.cells.length:=Lb _;have aH:=QqD x.f.slots 5;have aX:=QqD x.f.slots 7;unfold Jp at aa;simp only[Vf,Qb,simprocAttr,r2,g2,au];refine⟨aQ,?_⟩;refine(QG x 5 H1 (hx.ext ab aN)).w ?_;rintro _ _ aI ak ⟨rfl,k,rfl⟩;have aO:Ext H1 (H1.up k):=(Ext.refl H1).up aI;obtain⟨ac,_,aW,ad,ba,_,_⟩:=am.go aO ak rfl rfl;simp only[Qb,simprocAttr];refine Qg (λh=>?_) (λh=>?_)
 ·have ax:0<=Qh x.f.slots 5:=Lg h;rw[Lc ax]at aa;have q:Qyj x.f op l=if(l[(Qh x.f.slots 5).toNat]?.getD WN).k=3 then(W4 (l[(Qh x.f.slots 5).toNat]?.getD WN).n (Qy op l).1 (Qy op l).2).1 else(l[(Qh x.f.slots 5).toNat]?.getD WN).n:=rfl
  obtain⟨i,hi⟩:∃i:Nat,Qh x.f.slots 5=i:=⟨(Qh x.f.slots 5).toNat,by omega⟩;rw[hi]at aH q ⊢;have aE:i<l.length:=by omega
  obtain⟨a,ag⟩:∃a,l[i]? = some a:=⟨_,La aE⟩;have d1:(0:Int)<=i∧(i:Int)<l.length:=by omega
  have d3:(i:Int).toNat=i:=by omega
  have aD:l[(i:Int).toNat]?.getD WN=a:=by rw[d3,ag];rfl
  rw[aD]at q;have ai:I64 a.n:=az a (Ln ag);have aB:=Qqn a.n (Qy op l).1 (Qy op l).2 ai;have aU:=Vz a.n (Qy op l).1 (Qy op l).2 ai;have aT:=λH' (hx:Ext H H')=>QcQ op va l H' (ae.ext ab hx) aj;obtain⟨a0,cap,rfl,ay⟩:=id ae;obtain⟨b,e,ro,rfl,an⟩:=ay (by omega);have aC:(H1.up k).get b=some (.cells (Ql l) e ro):=by rw[ac.get b (ab.lt an)];exact an
  have aF:(Ql l)[i * 11]? = some (.Z a.k):=by
   have:=XU l i a ag;have h:=congrArg (λz=>z[0]?) this;simpa[Ar.cells,Nl,Nk] using h
  have aG:(Ql l)[i * 11+10]? = some (.Z a.n):=by
   have:=XU l i a ag;have h:=congrArg (λz=>z[10]?) this;simpa[Ar.cells,Nl,Nk] using h
  generalize H1.up k=H2 at *;simp only[Qdw,Qb,simprocAttr,r3,ad,d1,d3,aC,aF,aG];obtain⟨N,aw⟩:∃N,N=Qyj x.f op l:=⟨_,rfl⟩;rw[<- aw]at q aa;have aA:I64 N:=by
   rw[q];split;·exact aB
   exact ai
  have ah:∀ (B:Env) (H5:Qa),Ext H2 H5->H5.Wf->B 3=A 3->B 7=A 7->Qe Pg 140 [.Z N,.Z (tlN x.f)] H5 (Qnn Pg [Om 49 (t 52),Ow 53 (.ext (t 49) 0),Ow 54 (.ext (t 49) 1),Om 5 (t 53)] (Qm Pg Js ⟨KT H W,X4⟩ (KT H W)) B (some 52)):=by
   intro B H5 e1 e2 aR aS;refine(QnM N (tlN x.f) aA H5).w ?_;rintro _ H6 bd aM ⟨v,rfl,aL,ap⟩;simp only[Qb,simprocAttr];have aP:=(ac.trans e1).trans ap;have aK:=(ac.trans e1).y;refine QKl ab ae aj (by omega) (QzE N (tlN x.f)) aa (v:=v) aP aM (by rw[(e1.trans ap).get _ (by omega)];exact ad) ?_ ?_ ?_ (aL.down aK)
   all_goals simp only[Qd,simprocAttr,aR,aS,r3,ar]
  cases c:a.k==3 with
  | false=>
   rw[Le (by simpa using c)]at q;rw[q]at ah;simp only[Qb,simprocAttr,aq];refine ah _ H2 (Ext.refl _) ak ?_ ?_
   all_goals simp only[Qd,simprocAttr]
  | true=>
   rw[Lc (by simpa using c)]at q;simp only[Qdv,Qb,simprocAttr,r3,ad,List.take];refine(aT H2 ac).w ?_;rintro _ _ aJ bh ⟨rfl,k4,rfl⟩;simp only[Qb,simprocAttr];refine(aU _).w ?_;rintro _ H5 bc ao ⟨rfl,av⟩;rw[av]at ao ⊢;rw[q]at ah;simp only[Qb,simprocAttr,aq];refine ah _ _ (show Ext H2 (H2.up k4) from(Ext.refl H2).up aJ) ao ?_ ?_
   all_goals simp only[Qd,simprocAttr]
 rw[Le (by have:=Ll h;omega),LH]at aa;simp only[Qb,simprocAttr];refine QKl ab ae aj (w:=[]) (by omega) (by simp) aa (v:=.slice none 0 0) ac ak ad ?_ ?_ ?_ (.inl ⟨rfl,rfl,rfl⟩)
 all_goals simp only[Qd,simprocAttr,r3,aV,ar]
end
def QDG {x:Lf}{H:Qa}(ad:H.Wf)(hx:x.At H)(q:x.Fr 0)(m:Nat)(ac:H.y<=m):Qp m 6 (.agg x.cells.toArray)=true:=by
 have aa:=QhP ad q.1 hx.2.2.1 m ac 4;have ab:=QhP ad q.2 hx.2.2.2 m ac 4;simp only[Nat.reduceAdd]at aa ab;obtain⟨f,ae,ag⟩:=x;have e1:SlF 0 ae f.shapes:=q.1;have e2:SlF 0 ag f.slots:=q.2;clear hx q;simp only[Lf.cells]at *;rcases e1 with⟨_,rfl⟩ | ⟨_,b1,ah,rfl,_,_⟩<;>rcases e2 with⟨_,rfl⟩ | ⟨_,b2,ai,rfl,_,_⟩
 all_goals (simp only[Qp]at aa ab;simp[Qp,Ab.plain,aa,ab])
def QrQ {x:Lf}{op:Int}{va:Value}{l:List Ar}(H:Qa)(hx:x.At H)(aC:x.Fr 0)(ae:Wg H va l)(an:l.length<=1000)(am:∀a∈l,I64 a.n)(ao:x.f.slots.length=l.length):
  Qe Pg 93 [.agg x.cells.toArray,.agg #[.Z op,va]] H λv H'=>Gx 1 5 H H' v (Jp x.f op l).length (bys (Jp x.f op l))∧Ext H H':=by
 refine QpD λaa=>?_;have aw:(Value.agg x.cells.toArray).cells.toList=x.cells:=rfl;have ai:x.cells.take 10=x.cells:=rfl;have au:10<=x.cells.length:=Lb _;obtain⟨W,ad⟩:∃W,W=Jp x.f op l:=⟨_,rfl⟩;rw[<- ad];obtain⟨a0,cap,rfl⟩:=Xt ae;simp only[QgL,aw,QbZ,simprocAttr];generalize ab:Qa.push H (.C x.cells 57)=H1;have g1:H1.get H.y=some (.C x.cells 57):=by rw[<- ab,Qc,Lc rfl]
 have aG:Ext H H1:=by rw[<- ab];exact(Ext.refl H).push _
 have ap:H1.y=H.y+1:=by rw[<- ab];rfl
 have aE:H1.Wf:=by rw[<- ab];exact aa.push _
 clear ab;simp only[Qb,simprocAttr,ap];generalize q:Qa.push H1 _=H2;have ag:Ext H H2:=by rw[<- q];exact(aG.push _)
 have aK:H2.Wf:=by rw[<- q];exact(aE.push _)
 have ax:H2.get H.y=some (.C x.cells 57):=by rw[<- q,Qc,Le (by omega)];exact g1
 have ay:H2.get (H.y+1)=some (.C [.Z op,.slice a0 l.length cap] 26):=by rw[<- q,Qc,Lc (by omega)]
 have aI:H2.y=H.y+2:=by rw[<- q,Qf,ap]
 clear q;simp only[Qb,simprocAttr,g1,ai];refine⟨au,by omega,?_⟩;refine(Qlo x H2 (hx.ext aa ag)).w ?_;rintro _ _ aq aL ⟨rfl,k,rfl⟩;have ah:Ext H2 (H2.up k):=(Ext.refl H2).up aq;refine⟨ah.eqB,?_⟩;have aj:(H2.up k).get H.y=some (.C x.cells 57):=by rw[XB];exact ax
 have az:(H2.up k).get (H.y+1)=some (.C [.Z op,.slice a0 l.length cap] 26):=by rw[XB];exact ay
 have aH:H2.y<=k:=aq;simp only[Qb,simprocAttr,aj,ai];refine⟨au,QDG aa hx aC k (by omega),?_⟩;refine(QG x 7 _ (hx.ext aa (ag.trans ah))).w ?_;rintro _ _ aD aF ⟨rfl,k2,rfl⟩;have ar:Ext H2 ((H2.up k).up k2):=ah.up aD;have ak:∀B:Env,B 2=.P H.y->B 3=.P (H.y+1)->FtF H ((H2.up k).up k2) x op (.slice a0 l.length cap) B:=λB e2 e3=>⟨ag.trans ar,aF,by rw[XB];exact aj,by rw[XB];exact az,by have:=ar.y;omega,e2,e3⟩;have aJ:=Qp6 x.f;have aB:tlF x.f=bif decide (0<=Qh x.f.slots 7) then tl1 x.f+1 else tl1 x.f:=rfl
 simp only[Qb,simprocAttr];refine Qg (λh=>?_) (λh=>?_)
 ·have aA:0<=Qh x.f.slots 7:=Lg h;have ac:tlN x.f=tlF x.f - 1:=Lc aA;rw[h,Lq]at aB;have av:IntKind.i64.wrap (tlF x.f - 1)=tlN x.f:=by rw[ac,w64 (by unfold I64;omega)]
  simp only[Qb,simprocAttr,av];refine QKm aa hx ae an am ao ad (ak _ ?_ ?_) ?_ ?_ ?_
  all_goals simp only[Qd,simprocAttr]
 have ac:tlN x.f=tlF x.f:=Le (by have:=Ll h;omega);simp only[Qb,simprocAttr];refine QKm aa hx ae an am ao ad (ak _ ?_ ?_) ?_ ?_ ?_
 all_goals simp only[Qd,simprocAttr,ac]
def QrR (f:Fm)(l:List Ar):Int:=if 0<=Qh f.slots 1 then WY (l[(Qh f.slots 1).toNat]?.getD WN).r else f.digit
def WT (f:Fm)(l:List Ar):List Ld:=
 if Qh f.slots 2<0 then[⟨[],0,0⟩]
 else if((Qec (QrR f l) (l[(Qh f.slots 2).toNat]?.getD WN)).2==0)=true then(Qec (QrR f l) (l[(Qh f.slots 2).toNat]?.getD WN)).1 else[]
section
variable {x:Lf} {op:Int} {va:Value} {l:List Ar} {H:Qa}
abbrev KP (H:Qa)(W:List Ld):Env->Qa->Prop:=Rt Pg Tryz.f94 H λv H'=>Yb 159 H H' v W∧Ext H H'
def QKn (an:H.Wf)(ah:Wg H va l){W:List Ld}{mid:Int}{i:Nat}{a:Ar}(ac:l[i]? = some a)(aa:W=if((Qec mid a).2==0)=true then(Qec mid a).1 else[]){A:Env}{H1:Qa}(ag:FtF H H1 x op va A)(r4:A 4=.slice none 0 0)(ao:A 5=.Z i)(ap:A 6=.Z mid):
  Qm Pg KL ⟨KP H W,X4⟩ (KP H W) A H1:=by
 obtain⟨q,av,g2,g3,ar,r2,r3⟩:=id ag;have aq:i<l.length:=(Lk.1 ac).1;obtain⟨a0,cap,rfl,ae⟩:=ah;obtain⟨b,e,ro,rfl,ad⟩:=ae (by omega);have ai:H1.get b=some (.cells (Ql l) e ro):=by rw[q.get b (an.lt ad)];exact ad
 have d1:(0:Int)<=i∧(i:Int)<l.length:=by omega
 have d3:(i:Int).toNat=i:=by omega
 have ak:=XU l i a ac;have aj:i * 11+11<=(Ql l).length:=by rw[Wb];omega
 simp only[KL,Qb,simprocAttr,r3,ao,ap,g3,d1,d3,ai,ak];refine⟨aj,?_⟩;refine(Qwf mid a H1).w ?_;rintro _ H2 au aw ⟨v,rfl,am,ab⟩;simp only[Qb,simprocAttr];cases c:(Qec mid a).2==0 with
 | false=>
  simp only[Qb,simprocAttr,Gm];rw[c,Le (by decide)]at aa;exact .mk (q.trans ab).y ⟨by rw[aa];exact Yb.nil _ _ _,q.trans ab⟩
 | true=>
  simp only[Qb,simprocAttr,Gm];rw[c,Lc rfl]at aa;exact .mk (q.trans ab).y ⟨by rw[aa];exact am.down q.y,q.trans ab⟩
def QLd (ad:H.Wf)(hx:x.At H)(ae:Wg H va l)(aL:l.length<=1000)(aM:x.f.slots.length=l.length){W:List Ld}(aK:0<=Qh x.f.slots 2)(aa:W=WT x.f l){A:Env}{H1:Qa}(ac:FtF H H1 x op va A)(r4:A 4=.slice none 0 0)(ai:A 5=.Z (Qh x.f.slots 2)):
  Qm Pg KM ⟨KP H W,X4⟩ (KP H W) A H1:=by
 obtain⟨aE,aP,g2,g3,aN,r2,r3⟩:=id ac;have an:x.cells.take 10=x.cells:=rfl;have aI:x.cells[6]? = some (.Z x.f.digit):=rfl;have aH:10<=x.cells.length:=Lb _;have az:=QqD x.f.slots 2;have ay:=QqD x.f.slots 1;unfold WT at aa;rw[Le (by omega)]at aa;obtain⟨i,hi⟩:∃i:Nat,Qh x.f.slots 2=i:=⟨(Qh x.f.slots 2).toNat,by omega⟩;rw[hi]at aa ai az;obtain⟨a,ag⟩:∃a,l[i]? = some a:=⟨_,La (by omega)⟩;have au:l[(i:Int).toNat]?.getD WN=a:=by rw[show(i:Int).toNat=i by omega,ag];rfl
 rw[au]at aa;have ab:QrR x.f l=if 0<=Qh x.f.slots 1 then WY (l[(Qh x.f.slots 1).toNat]?.getD WN).r else x.f.digit:=rfl
 simp only[KM,Qb,simprocAttr,r2,g2,aI,an];refine⟨aH,?_⟩;refine(QG x 1 H1 (hx.ext ad aE)).w ?_;rintro _ _ aA am ⟨rfl,k,rfl⟩;have ah:Ext H1 (H1.up k):=(Ext.refl H1).up aA;obtain⟨aF,_,aJ,ao,aO,_,_⟩:=ac.go ah am rfl rfl;simp only[Qb,simprocAttr];refine Qg (λh=>?_) (λh=>?_)
 ·have ap:0<=Qh x.f.slots 1:=Lg h;rw[Lc ap]at ab;obtain⟨j,aw⟩:∃j:Nat,Qh x.f.slots 1=j:=⟨(Qh x.f.slots 1).toNat,by omega⟩;rw[aw]at ay ab ⊢;obtain⟨c,aj⟩:∃c,l[j]? = some c:=⟨_,La (by omega)⟩;have av:l[(j:Int).toNat]?.getD WN=c:=by rw[show(j:Int).toNat=j by omega,aj];rfl
  rw[av]at ab;obtain⟨a0,cap,rfl,aq⟩:=id ae;obtain⟨b,e,ro,rfl,ak⟩:=aq (by omega);have ar:(H1.up k).get b=some (.cells (Ql l) e ro):=by rw[aF.get b (ad.lt ak)];exact ak
  have d1:(0:Int)<=j∧(j:Int)<l.length:=by omega
  have d3:(j:Int).toNat=j:=by omega
  have aC:=Qe1 aj;have ax:j * 11+1+2<=(Ql l).length:=by rw[Wb];omega
  have q:=Vn c.r;simp only[Rg.cells]at q;generalize H1.up k=H2 at *;simp only[Qb,simprocAttr,r3,ao,d1,d3,ar,aC];refine⟨ax,?_⟩;refine(q H2).w ?_;rintro _ _ aB aD ⟨rfl,k4,rfl⟩;have aG:Ext H1 (H2.up k4):=ah.trans ((Ext.refl H2).up aB);simp only[Qb,simprocAttr];refine QKn ad ae (mid:=WY c.r) ag (by rw[aa,ab]) (ac.go aG aD ?_ ?_) ?_ ?_ ?_
  all_goals simp only[Qd,simprocAttr,r4,ai]
 rw[Le (by have:=Ll h;omega)]at ab;simp only[Qb,simprocAttr];refine QKn ad ae (mid:=x.f.digit) ag (by rw[aa,ab]) (ac.go ah am ?_ ?_) ?_ ?_ ?_
 all_goals simp only[Qd,simprocAttr,r4,ai]
end
def Qop {x:Lf}{op:Int}{va:Value}{l:List Ar}(H:Qa)(hx:x.At H)(ai:Wg H va l)(av:l.length<=1000)(aw:x.f.slots.length=l.length):
  Qe Pg 94 [.agg x.cells.toArray,.agg #[.Z op,va]] H λv H'=>Yb 159 H H' v (WT x.f l)∧Ext H H':=by
 refine Qmm λag=>?_;have ao:(Value.agg x.cells.toArray).cells.toList=x.cells:=rfl;have am:x.cells.take 10=x.cells:=rfl;have aB:10<=x.cells.length:=Lb _;obtain⟨W,ad⟩:∃W,W=WT x.f l:=⟨_,rfl⟩;rw[<- ad];obtain⟨a0,cap,rfl⟩:=Xt ai;simp only[Qdx,ao,QbZ,simprocAttr];generalize aa:Qa.push H (.C x.cells 57)=H1;have g1:H1.get H.y=some (.C x.cells 57):=by rw[<- aa,Qc,Lc rfl]
 have aA:Ext H H1:=by rw[<- aa];exact(Ext.refl H).push _
 have aj:H1.y=H.y+1:=by rw[<- aa];rfl
 have ay:H1.Wf:=by rw[<- aa];exact ag.push _
 clear aa;simp only[Qb,simprocAttr,aj];generalize q:Qa.push H1 _=H2;have ab:Ext H H2:=by rw[<- q];exact(aA.push _)
 have aD:H2.Wf:=by rw[<- q];exact(ay.push _)
 have ap:H2.get H.y=some (.C x.cells 57):=by rw[<- q,Qc,Le (by omega)];exact g1
 have aq:H2.get (H.y+1)=some (.C [.Z op,.slice a0 l.length cap] 26):=by rw[<- q,Qc,Lc (by omega)]
 have aC:H2.y=H.y+2:=by rw[<- q,Qf,aj]
 clear q;simp only[Qb,simprocAttr,g1,am];refine⟨aB,?_⟩;refine(QG x 2 H2 (hx.ext ag ab)).w ?_;rintro _ _ ax az ⟨rfl,k,rfl⟩;have ac:Ext H2 (H2.up k):=(Ext.refl H2).up ax;have au:∀B:Env,B 2=.P H.y->B 3=.P (H.y+1)->FtF H (H2.up k) x op (.slice a0 l.length cap) B:=λB e2 e3=>⟨ab.trans ac,az,by rw[XB];exact ap,by rw[XB];exact aq,by have:=ac.y;omega,e2,e3⟩;simp only[Qb,simprocAttr];refine Qg (λh=>?_) (λh=>?_)
 ·have ar:Qh x.f.slots 2<0:=Lg h;have an:W=[⟨[],0,0⟩]:=by rw[ad];unfold WT;rw[Lc ar]
  simp only[Qb,simprocAttr,Gm];have ak:=(ab.trans ac).push (.C [.slice none 0 0,.Z 0,.Z 0] 159);refine .mk ak.y ⟨?_,ak⟩;rw[an];refine⟨[.slice none 0 0],rfl,.inr ⟨(H2.up k).y,1,rfl,(ab.trans ac).y,by rw[Qc,Lc rfl];rfl,rfl,.inl rfl⟩,λj s w ae ah=>?_⟩;cases j with
  | zero=>simp at ae ah;subst ae;subst ah;exact .inl ⟨rfl,rfl,rfl⟩
  | succ j=>simp at ae
 simp only[Qb,simprocAttr];refine QLd ag hx ai av aw (by have:=Ll h;omega) ad (au _ ?_ ?_) ?_ ?_
 all_goals simp only[Qd,simprocAttr]
def QGe (a:Ar)(H:Qa):Qe Pg 196 [.agg a.cells.toArray] H λu H'=>u=.bool (a.k==2)∧Ext H H':=by
 refine Qc4 λah=>?_;obtain⟨q,⟨ae,ag⟩,⟨⟨aa,ab⟩,⟨ac,ad⟩,sc,d,sz⟩,n⟩:=a;simp only[Ar.cells,J9,Qb,simprocAttr,Qb3];have hx:=(Ext.refl H).push (.C [.Z q,.Z ae,.Z ag,.Z aa,.Z ab,.Z ac,.Z ad,.Z sc,.Z d,.Z sz,.Z n] 50);exact .mk hx.y ⟨rfl,hx⟩
def Qwk {g:FuncId}{p:Ar->Bool}(ao:∀ (a:Ar) (H:Qa),Qe Pg g [.agg a.cells.toArray] H λu H'=>u=.bool (p a)∧Ext H H')(va:Value)(l:List Ar)(H:Qa)(ak:Wg H va l)(au:l.length<=1000):Qe Pg 258 [va,.func (.func g) #[] #[]] H λu H'=>∃r:Int,u=.Z r∧decide (0<=r)=l.any p∧Ext H H':=by
 refine Kc λae=>?_;obtain⟨a0,cap,rfl,aj⟩:=ak;simp only[XQ,Qb,simprocAttr];refine Qu (λm A' H'=>∃i:Nat,i<=l.length∧m=l.length - i∧H'.Wf∧Ext H H'∧A' 0=.slice a0 l.length cap∧A' 1=.func (.func g) #[] #[]∧A' 7=.Z l.length∧A' 8=.Z i∧(l.take i).any p=false) l.length ?_ ?_
 ·refine⟨0,L7 _,by omega,ae,Ext.refl H,?_,?_,?_,?_,by simp⟩
  all_goals simp only[Qd,simprocAttr]
  all_goals rfl
 rintro m A' H' ⟨i,hi,rfl,aw,hx,ag,r1,ah,r8,ab⟩;simp only[Qb,simprocAttr,ah,r8];refine Qg (λq=>?_) (λq=>?_)
 ·have q:i<l.length:=by have:=Lg q;omega
  obtain⟨a,aa⟩:∃a,l[i]? = some a:=⟨_,La q⟩;obtain⟨b,e,ro,rfl,ad⟩:=aj (by omega);have am:H'.get b=some (.cells (Ql l) e ro):=by rw[hx.get b (ae.lt ad)];exact ad
  have ap:=XU l i a aa;have an:i * 11+11<=(Ql l).length:=by rw[Wb];omega
  have d1:(0:Int)<=i∧(i:Int)<l.length:=by omega
  have d3:(i:Int).toNat=i:=by omega
  have ai:IntKind.i64.wrap ((i:Int)+1)=((i+1:Nat):Int):=by rw[w64 (by unfold I64;omega)];omega
  have aq:l.take (i+1)=l.take i++[a]:=by rw[Nv,aa];rfl
  simp only[Qb,simprocAttr,ag,r1,r8,d1,d3,am,ap,Qsn];refine⟨an,?_⟩;refine(ao a H').w ?_;rintro _ H2 av ar ⟨rfl,ac⟩;cases c:p a with
  | true=>
   simp only[Qb,simprocAttr,XH];refine .mk (hx.trans ac).y ⟨i,rfl,?_,hx.trans ac⟩;rw[Lp d1.1];exact(Bh.2 ⟨a,Ln aa,c⟩).symm
  | false=>
   simp only[Qb,simprocAttr,r8,ai];refine⟨l.length - (i+1),by omega,i+1,by omega,rfl,ar,hx.trans ac,?_,?_,?_,?_,by rw[aq,Rz,ab];simp[c]⟩
   all_goals simp only[Qd,simprocAttr,ag,r1,ah]
 have q:i=l.length:=by have:=Ll q;omega
 subst q;rw[Nr]at ab;simp only[Qb,simprocAttr,XH];exact .mk hx.y ⟨-1,rfl,by rw[ab];rfl,hx⟩
def QqN {g:FuncId}{p:Ar->Bool}(ad:∀ (a:Ar) (H:Qa),Qe Pg g [.agg a.cells.toArray] H λu H'=>u=.bool (p a)∧Ext H H')(va:Value)(l:List Ar)(H:Qa)(ab:Wg H va l)(ac:l.length<=1000):Qe Pg 195 [va,.func (.func g) #[] #[]] H λu H'=>u=.bool (l.any p)∧Ext H H':=by
 refine Jc λag=>?_;simp only[Xs,Qb,simprocAttr];refine(Qwk ad va l H ab ac).w ?_;rintro _ H2 ae ah ⟨r,rfl,aa,q⟩;simp only[Qb,simprocAttr,ZR];exact .mk q.y ⟨by rw[aa],q⟩
def QDH (c:Int):Int:=IntKind.u8.wrap (BitVec.ofInt IntKind.u8.bits c &&& BitVec.ofInt IntKind.u8.bits 7).toNat
def QnP (l:List Ar)(w:Ld):Int:=
 if(!(l.any λa=>a.k==2)||(w.b.length==0))=true then -1 else if(QDH (w.b.getD 0 0)==4)=true then(w.b.length:Int) - 2 else(w.b.length:Int) - 1
def Qf9 {op:Int}{va:Value}{l:List Ar}{w:Ld}{v:Value}{H0:Qa}(H:Qa)(ai:Wg H va l)(ax:l.length<=1000)(ay:Gx 1 5 H0 H v w.b.length (bys w.b))(aG:w.b.length<=1000):
  Qe Pg 144 [.agg #[.Z op,va],.agg #[v,.Z w.x,.Z w.h]] H λu H'=>u=.Z (QnP l w)∧Ext H H':=by
 refine QeA λae=>?_;obtain⟨W,q⟩:∃W,W=QnP l w:=⟨_,rfl⟩;rw[<- q];unfold QnP at q;obtain⟨a0,cap,rfl⟩:=Xt ai;obtain⟨a1,ag,rfl,av⟩:∃a c,v=.slice a w.b.length c∧(0<w.b.length->∃b,a=some ⟨b,0,none⟩∧H.get b=some (.C (bys w.b) 5)):=by
  rcases ay with⟨rfl,h,_⟩ | ⟨b,c,rfl,_,h,_,_⟩;·exact⟨none,0,by rw[h],λh'=>by omega⟩
  exact⟨_,c,rfl,λ_=>⟨b,rfl,h⟩⟩
 simp only[Gi,QbZ,simprocAttr];generalize ac:Qa.push H _=H1;have g1:H1.get H.y=some (.C [.Z op,.slice a0 l.length cap] 26):=by rw[<- ac,Qc,Lc rfl];rfl
 have aA:Ext H H1:=by rw[<- ac];exact(Ext.refl H).push _
 have ak:H1.y=H.y+1:=by rw[<- ac];rfl
 have az:H1.Wf:=by rw[<- ac];exact ae.push _
 clear ac
 try simp only[Qb,simprocAttr,ak]
 generalize ab:Qa.push H1 _=H2;have an:Ext H H2:=by rw[<- ab];exact(aA.push _)
 have aE:H2.Wf:=by rw[<- ab];exact(az.push _)
 have aB:H2.get H.y=some (.C [.Z op,.slice a0 l.length cap] 26):=by rw[<- ab,Qc,Le (by omega)];exact g1
 have ar:H2.get (H.y+1)=some (.C [.slice a1 w.b.length ag,.Z w.x,.Z w.h] 159):=by rw[<- ab,Qc,Lc (by omega)]
 have aC:H2.y=H.y+2:=by rw[<- ab,Qf,ak]
 clear ab;simp only[Qb,simprocAttr,g1];refine(QqN QGe _ l H2 (ai.ext ae an) ax).w ?_;rintro _ H3 aD aF ⟨rfl,ao⟩;have aa:=an.trans ao;have ad:H3.get (H.y+1)=some (.C [.slice a1 w.b.length ag,.Z w.x,.Z w.h] 159):=by rw[ao.get _ (by omega)];exact ar
 generalize (l.any λa=>a.k==2)=M at *;cases M with
 | false=>
  simp only[Qb,simprocAttr,Xv];exact .mk aa.y ⟨by rw[q];rfl,aa⟩
 | true=>
  have aq:((w.b.length:Int)==0)=(w.b.length==0):=by
   rw[Ni,L0,L0];omega
  simp only[Qb,simprocAttr,ad,aq];cases c0:w.b.length==0 with
  | true=>
   simp only[Qb,simprocAttr,Xv];exact .mk aa.y ⟨by rw[q,c0];rfl,aa⟩
  | false=>
   have am:0<w.b.length:=by have:=LC.1 c0;omega
   obtain⟨b,rfl,aj⟩:=av am;have aw:H3.get b=some (.C (bys w.b) 5):=by rw[aa.get b (ae.lt aj)];exact aj
   have au:(bys w.b)[0]? = some (.int .u8 (w.b.getD 0 0)):=by
    simp[bys,La am]
   have d1:(0:Int)<w.b.length:=by omega
   have ap:IntKind.u8.wrap (BitVec.ofInt IntKind.u8.bits (w.b.getD 0 0) &&& BitVec.ofInt IntKind.u8.bits 7).toNat=QDH (w.b.getD 0 0):=rfl;rw[c0,L8,NI,Le (by decide)]at q;simp only[sxA,sxB,Nat.reduceBEq,Nat.reduceEqDiff,reduceCtorEq,mxA,mxB,Nat.reduceAdd,reduceIte,Nat.reduceLeDiff,splice,ad,aw,d1];refine⟨B0 0,_,au,?_⟩;simp only[Qb,simprocAttr,ap];have e2:IntKind.i64.wrap ((w.b.length:Int) - 2)=(w.b.length:Int) - 2:=w64 (by unfold I64;omega);have e1:IntKind.i64.wrap ((w.b.length:Int) - 1)=(w.b.length:Int) - 1:=w64 (by unfold I64;omega);cases ah:QDH (w.b.getD 0 0)==4 with
   | true=>
    rw[ah,Lc rfl]at q;simp only[Qb,simprocAttr,ad,e2,Xv];exact .mk aa.y ⟨by rw[q],aa⟩
   | false=>
    rw[ah,Le (by decide)]at q;simp only[Qb,simprocAttr,ad,e1,Xv];exact .mk aa.y ⟨by rw[q],aa⟩
def QrS {x:Lf}{op:Int}{va:Value}(H:Qa):Qe Pg 71 [.agg x.cells.toArray,.agg #[.Z op,va]] H λu H'=>u=.func (.func 92) #[] #[.P H.y,.P (H.y+1)]∧Ext H H'∧H.y+2<=H'.y∧H'.get H.y=some (.C x.cells 57)∧H'.get (H.y+1)=some (.C (Value.agg #[.Z op,va]).cells.toList 26):=by
 refine Qpy λaa=>?_;have q:(Value.agg x.cells.toArray).cells.toList=x.cells:=rfl;simp only[QgF,q,QbZ,simprocAttr];have hx:=((Ext.refl H).push (.C x.cells 57)).push (.C (Value.agg #[.Z op,va]).cells.toList 26);simp only[Qb,simprocAttr,Qn3];refine .mk hx.y ⟨rfl,hx,by simp only[Qf];omega,?_,?_⟩;·rw[Qc,Le (by rw[Qf];omega),Qc,Lc rfl]
 rw[Qc,Lc (by rw[Qf])]
def QlK {x:Lf}{op:Int}{va s q:Value}{ab aa:Int}(H:Qa)(ae:s.oneCell'=true)(ad:q.cells.toList=[q]):Qe Pg 95 [.agg x.cells.toArray,.agg #[.Z op,va],.agg #[s,.Z ab,.Z aa],q] H λu H'=>u=.func (.func 143) #[] #[.P (H.y+1),.P (H.y+2),.P H.y,.P (H.y+3)]∧Ext H H'∧H.y+4<=H'.y∧H'.get H.y=some (.C x.cells 57)∧H'.get (H.y+1)=some (.C (Value.agg #[.Z op,va]).cells.toList 26)∧H'.get (H.y+2)=some (.C (Value.agg #[s,.Z ab,.Z aa]).cells.toList 159)∧H'.get (H.y+3)=some (.C [q] 22):=by
 refine Qji λag=>?_;have ac:(Value.agg x.cells.toArray).cells.toList=x.cells:=rfl;have hx:=((((Ext.refl H).push (.C x.cells 57)).push (.C (Value.agg #[.Z op,va]).cells.toList 26)).push (.C (Value.agg #[s,.Z ab,.Z aa]).cells.toList 159)).push (.C [q] 22);simp only[Qbj,ac,QbZ,simprocAttr];simp only[Qb,simprocAttr,QhT,ad];refine .mk hx.y ⟨rfl,hx,by simp only[Qf];omega,?_,?_,?_,?_⟩;·rw[Qc,Le (by simp only[Qf];omega),Qc,Le (by simp only[Qf];omega),Qc,Le (by simp only[Qf];omega),Qc,Lc rfl]
 ·rw[Qc,Le (by simp only[Qf];omega),Qc,Le (by simp only[Qf];omega),Qc,Lc (by simp only[Qf])]
 ·rw[Qc,Le (by simp only[Qf];omega),Qc,Lc (by simp only[Qf])]
 rw[Qc,Lc (by simp only[Qf])]
def QDI (P:Program)(ty:TypeId)(size:Nat):Bool:=match P.underlying ty with | some (.slice e)=>(match P.info? e with | some q=>Nat.beq q.size size | none=>false) | _=>false
def Qyk {P:Program}{A:Env}{H:Qa}{k:Value->Qa->Prop}{ty:TypeId}{size:Nat}{x hi mx:Operand}{k1 k2:IntKind}{n:Int}{u v:Value}(q:QDI P ty size=true)(hx:ev A x=u)(ac:ev A hi=.int k1 n)(ad:ev A mx=.int k2 n)(ae:Yh size u none (some n) (some n)=some v):
  pr P (.gen (.slice ty x none (some hi) (some mx))) false A H k=k v H:=by
 unfold QDI at q;split at q
 ·rename_i e aa;split at q
  ·rename_i ag ab;have e0:ag.size=size:=LA q;subst e0;exact QCt (by
    have b1:Wx A (some hi)=some (some n):=by simp[Wx,ac]
    have b2:Wx A (some mx)=some (some n):=by simp[Wx,ad]
    have b0:Wx A none=some none:=rfl;simp only[rop,aop,Qj9,aa,ab,b0,b1,b2,hx,Zk,ae];rfl)
  cases q
 cases q
def Kw (f:Fm)(l:List Ar):Int:=if 0<=Qh f.slots 4 then IntKind.u8.wrap (IntKind.u8.wrap f.code+IntKind.u8.wrap (WY (l[(Qh f.slots 4).toNat]?.getD WN).r)) else IntKind.u8.wrap f.code
def Qel (f:Fm)(l:List Ar)(e:List Int)(w:Ld):List Ld:=(GQ f l w.x w.h).map λq=>⟨q++[Kw f l]++w.b++e,0,QnP l w⟩
def QDJ (p r:Int):(QbS p r).length<=4:=by
 unfold QbS QaN
 repeat' split
 all_goals simp
def QDK (m:Int):(Gb m).length<=2:=by
 unfold Gb
 repeat' split
 all_goals simp
def QsF (f:Fm)(l:List Ar)(a b:Int):(GQ f l a b).length<=3∧∀q∈GQ f l a b,q.length<=6:=by
 unfold GQ;split;·unfold QqC;cases f.w==-1<;>(repeat' split)<;>simp[Jn]
 refine⟨?_,λq h=>?_⟩
 ·rw[Nn];unfold chF;repeat' split
  all_goals simp
 obtain⟨n,_,rfl⟩:=N4.1 h;have:=QDJ f.pre n;have:=QDK f.map;rw[Lh];omega
structure PfF (Hz Hs H:Qa) (x:Lf) (op:Int) (va:Value) (p1 p2 p3 p4:Nat) (s tl:Value) (w:Ld) (e:List Int):Prop where
 z:Ext Hz H
 wf:H.Wf
 g1:H.get p1=some (.C [.Z op,va] 26)
 g2:H.get p2=some (.C [s,.Z w.x,.Z w.h] 159)
 g3:H.get p3=some (.C x.cells 57)
 g4:H.get p4=some (.C [tl] 22)
 s:Gx 1 5 Hs H s w.b.length (bys w.b)
 t:Gx 1 5 Hs H tl e.length (bys e)
structure PfO (Own:Nat->Prop) (Hz:Qa) (p1 p2 p3 p4:Nat) (s tl:Value):Prop where
 z:∀id,id<Hz.y->¬Own id
 o1:¬Own p1
 o2:¬Own p2
 o3:¬Own p3
 o4:¬Own p4
 s:∀id,inB s id->¬Own id
 t:∀id,inB tl id->¬Own id
section
variable {Hz Hs H:Qa} {x:Lf} {op:Int} {va:Value} {p1 p2 p3 p4:Nat} {s tl:Value} {w:Ld} {e:List Int} {Own:Qa->Nat->Prop}
def PfF.ck {H':Qa}(h:PfF Hz Hs H x op va p1 p2 p3 p4 s tl w e)(aa:PfO (Own H) Hz p1 p2 p3 p4 s tl)(q:CK Own H H'):PfF Hz Hs H' x op va p1 p2 p3 p4 s tl w e:=by
 have ac:=q.y;have ad:=h.z.y;refine⟨⟨by omega,λid ab=>?_⟩,q.w,?_,?_,?_,?_,?_,?_⟩;·rw[q.keep id (by omega) (aa.z id ab)];exact h.z.get id ab
 ·rw[q.keep _ (h.wf.lt h.g1) aa.o1];exact h.g1
 ·rw[q.keep _ (h.wf.lt h.g2) aa.o2];exact h.g2
 ·rw[q.keep _ (h.wf.lt h.g3) aa.o3];exact h.g3
 ·rw[q.keep _ (h.wf.lt h.g4) aa.o4];exact h.g4
 ·exact h.s.ext λid hi=>q.keep id (h.s.low h.wf hi).2 (aa.s id hi)
 exact h.t.ext λid hi=>q.keep id (h.t.low h.wf hi).2 (aa.t id hi)
def PfO.sub {O O':Nat->Prop}(h:PfO O Hz p1 p2 p3 p4 s tl)(aa:∀id,O' id->O id):PfO O' Hz p1 p2 p3 p4 s tl:=
 ⟨λid q ab=>h.z id q (aa _ ab),λq=>h.o1 (aa _ q),λq=>h.o2 (aa _ q),λq=>h.o3 (aa _ q),λq=>h.o4 (aa _ q),λid q ab=>h.s id q (aa _ ab),λid q ab=>h.t id q (aa _ ab)⟩
def GY.keep2 {e:TypeId}{H0 H H':Qa}{v:Value}{ws:List (List Int)}(h:GY e H0 H v ws)(q:H.Wf)(ae:∀id,H0.y<=id->id<H.y->H'.get id=H.get id):GY e H0 H' v ws:=by
 obtain⟨ss,ag,aa,ab⟩:=h.it;exact⟨h.ne,ss,ag,aa.ext λid hi=>ae id (aa.low q hi).1 (aa.low q hi).2,λj s w ac ad=>(ab j s w ac ad).ext λid hi=>ae id ((ab j s w ac ad).low q hi).1 ((ab j s w ac ad).low q hi).2⟩
def QKo {base ay:Nat}{R:Nat->Qa->Prop}{l:List Ar}(ac:Cns base ay (Qel x.f l e w) LdV R Own)(bV:base<=H.y)(bu:FOk x.f)(hx:x.At Hz)(aE:Wg Hz va l)(aS:Hz.Wf)(av:∀n,Hz.y<=n->Qp n 6 (.agg #[.Z op,va])=true)(bD:l.length<=1000)(bE:x.f.slots.length=l.length)
  (bM:0<=w.x∧w.x<2) (bL:0<=w.h∧w.h<2) (bN:x.f.vex=true->(vxF x.f l w.x w.h).Ok) (cf:w.b.length<=1000) (bX:e.length<=2000)
  {H1:Qa} (aC:PfF Hz Hs H1 x op va p1 p2 p3 p4 s tl w e) (aO:PfO (Own H1) Hz p1 p2 p3 p4 s tl) (ap:R 0 H1) (aJ:CK Own H H1)
  {A:Env} (am:A 0=.func (.yield ay) #[] #[]) (r1:A 1=.P p1) (r2:A 2=.P p2) (r3:A 3=.P p3) (r4:A 4=.P p4) (an:A 6=.Z (QnP l w)) (ao:A 7=.int .u8 (Kw x.f l)):
  Qm Pg Y6 ⟨Rt Pg Tryz.f143 H λu H'=>R (Qel x.f l e w).length H'∧CK Own H H',X4⟩ (Rt Pg Tryz.f143 H λu H'=>R (Qel x.f l e w).length H'∧CK Own H H') A H1:=by
 obtain⟨ax,aR,g1,g2,g3,g4,bF,cc⟩:=id aC;have bd:x.cells.take 10=x.cells:=rfl;have bO:10<=x.cells.length:=Lb _;obtain⟨bR,sc,rfl⟩:=bF.slc;obtain⟨a0,cap,rfl⟩:=Xt aE;simp only[Y6,Qb,simprocAttr,r1,r2,r3,g1,g2,g3,bd];refine⟨bO,?_⟩;have av:=λn (h:H1.y<=n)=>av n (N8 ax.y h);refine(QqF bu H1 (hx.ext aS ax) (aE.ext aS ax) av bD bE bM bL bN).w ?_;rintro v H2 bZ ae ⟨aQ,aT⟩;obtain⟨aZ,bS,rfl⟩:=aQ.slc;obtain⟨aD,aB⟩:=ac.ext _ _ _ ap aR aT;have ar:=ac.ck ap aR aT ae;have bn:=aC.ck aO ar;obtain⟨bW,br⟩:=QsF x.f l w.x w.h;generalize aH:GQ x.f l w.x w.h=hd at *;simp only[Qb,simprocAttr];refine Qu (λm A' H'=>∃i:Nat,i<=hd.length∧m=hd.length - i∧R i H'∧CK Own H2 H'∧A' 0=.func (.yield ay) #[] #[]∧A' 2=.P p2∧A' 4=.P p4∧A' 6=.Z (QnP l w)∧A' 7=.int .u8 (Kw x.f l)∧A' 35=.slice aZ hd.length bS∧A' 36=.Z hd.length∧A' 37=.Z i) hd.length ?_ ?_
 ·refine⟨0,L7 _,by omega,aD,ac.ck aD ae (.refl _) ae,?_,?_,?_,?_,?_,?_,?_,?_⟩
  all_goals simp only[Qd,simprocAttr,am,r2,r4,an,ao]
  all_goals rfl
 rintro m A' H' ⟨i,hi,rfl,aj,ad,am,r2,r4,an,ao,aX,aY,az⟩;have ab:=ad.w;simp only[Gq,Qb,simprocAttr,aY,az];refine Qg (λaa=>?_) (λaa=>?_)
 ·have aa:i<hd.length:=by have:=Lg aa;omega
  simp only[Gp,Qb,simprocAttr,aX,az];obtain⟨ss,cb,bA,aq⟩:=aQ.it;obtain⟨b,bq,rfl,aG⟩:∃b,H1.y<=b∧aZ=some ⟨b,0,none⟩∧H2.get b=some (.C ss 22):=by
   rcases bA with⟨h,h',_⟩ | ⟨b,c,h,bP,bQ,_⟩;·omega
   cases h;exact⟨b,bP,rfl,bQ⟩
  have aN:∀id,H1.y<=id->¬Own H2 id:=λid bU aa=>by have:=ac.low _ _ _ ap (aB _ aa);omega
  have b9:H'.get b=some (.C ss 22):=by rw[ad.keep _ (ae.lt aG) (aN _ bq)];exact aG
  obtain⟨sv,ak⟩:∃sv,ss[i]? = some sv:=⟨_,La (by omega)⟩;obtain⟨q,ah⟩:∃bi,hd[i]? = some bi:=⟨_,La aa⟩;have aP:=(aq i sv q ak ah).ext (H':=H') λid aI=>ad.keep id ((aq i sv q ak ah).low ae aI).2 (aN _ ((aq i sv q ak ah).low ae aI).1);have bY:=br q (Ln ah);have d1:(0:Int)<=i∧(i:Int)<hd.length:=by omega
  have d3:(i:Int).toNat=i:=by omega
  have bg:IntKind.i64.wrap ((i:Int)+1)=((i+1:Nat):Int):=by rw[w64 (by unfold I64;omega)];omega
  obtain⟨ba,bc,rfl⟩:=aP.slc;have aM:q.length<UNK:=by unfold UNK;omega
  obtain⟨af,bx,bw⟩:=QFn aP aM;have bI:QDI Pg 22 1=true:=by kernel_rfl
  have ag:=bn.ck (aO.sub aB) ad;simp only[Qb,simprocAttr,d1,d3,b9,ak];rw[Qyk (k1:=.i64) (k2:=.i64) (n:=(q.length:Int)) (u:=.slice ba q.length bc) bI (by simp only[Qd,simprocAttr]) (by simp only[Qd,simprocAttr]) (by simp only[Qd,simprocAttr]) bx];simp only[Qb,simprocAttr,ao];have ai:=(Ext.refl H').push (.C [.int .u8 (Kw x.f l)] 5);have bJ:=ab.push (.C [.int .u8 (Kw x.f l)] 5);have bz:=Qqx H' (Kw x.f l);generalize H'.push _=H4 at *;refine QCu (bw.go ab ai) ⟨af,rfl⟩ bJ bz.src (Vu _) (by decide) (by rw[Yn];rfl) (by omega) (by omega) aM ?_;rintro cg H5 b7 aW bK ⟨b5,rfl⟩;have aA:=ag.g2;have aU:=ai.trans aW;have bj:H5.get p2=some (.C [.slice bR w.b.length sc,.Z w.x,.Z w.h] 159):=by rw[aU.get _ (ab.lt aA)];exact aA
  have bG:=ag.s.go ab aU;simp only[Qb,simprocAttr,r2,bj];refine V6 b7 aW bK bG.src (Vu _) (by rw[Yn,NH]) (by omega) (by omega) ?_;intro ch H6 b8 au;have aV:=ai.trans au.x;have bh:H6.get p4=some (.C [tl] 22):=by rw[aV.get _ (ab.lt ag.g4)];exact ag.g4
  have bH:=ag.t.go ab aV;simp only[Qb,simprocAttr,r4,bh];refine V6 b8 au.x au.w bH.src (Vu _) (by rw[Yn,NH]) (by omega) (by omega) ?_;intro ci H7 aF aK;have aw:=ai.trans aK.x;obtain⟨a7,bT,rfl⟩:=aF.slc;have bB:(Qel x.f l e w)[i]? = some ⟨q++[Kw x.f l]++w.b++e,0,QnP l w⟩:=by unfold Qel;rw[LD,aH,ah];rfl
  obtain⟨bo,bm⟩:=ac.ext _ _ _ aj ab aw;simp only[Qb,simprocAttr,am,an,QaR];refine QhN (ac.go _ _ H' H7 _ bB bo aj ab ⟨_,rfl,?_⟩ (by have:=aJ.y;have:=ar.y;have:=ad.y;omega) aw bm) ?_
  ·have e1:(q++[Kw x.f l]++w.b++e).length=q.length+1+w.b.length+e.length:=by simp only[Lh,Lo,L9]
   have e2:bys (q++[Kw x.f l]++w.b++e)=bys q++bys [Kw x.f l]++bys w.b++bys e:=by rw[QaJ,QaJ,QaJ]
   show Gx 1 5 H' H7 _ (q++[Kw x.f l]++w.b++e).length (bys (q++[Kw x.f l]++w.b++e));rw[e1,e2];exact aF.down ai.y
  rintro _ H8 ca ce ⟨rfl,bp,bC⟩;simp only[Qb,simprocAttr,az,bg];refine⟨hd.length - (i+1),by omega,i+1,by omega,rfl,bp,(ad.trans (ac.ck aj ab aw aK.w)).trans bC,?_,?_,?_,?_,?_,?_,?_,?_⟩
  all_goals simp only[Qd,simprocAttr,am,r2,r4,an,ao,aX,aY]
 have aa:i=hd.length:=by have:=Ll aa;omega
 subst aa;simp only[Qb,simprocAttr,Qf3];have aL:=(aJ.trans ar).trans ad;exact .mk aL.y ⟨by unfold Qel;rw[Nn,aH];exact aj,aL⟩
def Qwl {base aN:Nat}{R:Nat->Qa->Prop}{l:List Ar}(aa:Cns base aN (Qel x.f l e w) LdV R Own)(ay:base<=H.y)(aA:FOk x.f)(hx:x.At Hz)(ac:Wg Hz va l)(ad:Hz.Wf)(aH:∀n,Hz.y<=n->Qp n 6 (.agg #[.Z op,va])=true)(aj:l.length<=1000)(aD:x.f.slots.length=l.length)
  (aJ:0<=w.x∧w.x<2) (aI:0<=w.h∧w.h<2) (aM:x.f.vex=true->(vxF x.f l w.x w.h).Ok) (ap:w.b.length<=1000) (az:e.length<=2000)
  (ar:PfF Hz Hs H x op va p1 p2 p3 p4 s tl w e) (aE:PfO (Own H) Hz p1 p2 p3 p4 s tl) (av:R 0 H):
  Qe Pg 143 [.func (.yield aN) #[] #[],.P p1,.P p2,.P p3,.P p4] H λu H'=>R (Qel x.f l e w).length H'∧CK Own H H':=by
 refine QgS λam=>?_;obtain⟨bm,bE,g1,g2,g3,g4,aG,bB⟩:=id ar;have aO:x.cells.take 10=x.cells:=rfl;have bp:10<=x.cells.length:=Lb _;have bq:x.cells[5]? = some (.Z x.f.code):=rfl;obtain⟨bF,sc,rfl⟩:=aG.slc;obtain⟨a0,cap,rfl⟩:=Xt ac;simp only[VK,Qb,simprocAttr,g1,g2];refine⟨am.lt g3,?_⟩;refine(Qf9 H (ac.ext ad bm) aj aG ap).w ?_;rintro _ H2 b8 an ⟨rfl,aq⟩;obtain⟨aw,aU⟩:=aa.ext _ _ _ av am aq;have ah:=aa.ck av am aq an;have au:=ar.ck aE ah;have aF:=aE.sub aU;obtain⟨bn,_,br,bu,aR,bz,b9,bC⟩:=id au;simp only[Qb,simprocAttr,aR,bq,aO];refine⟨aq.eqB,by simp[Qp,Ab.plain],bp,?_⟩;refine(QG x 4 H2 (hx.ext ad bn)).w ?_;rintro _ _ bg ao ⟨rfl,k,rfl⟩;have aK:Ext H2 (H2.up k):=(Ext.refl H2).up bg;obtain⟨ag,aV⟩:=aa.ext _ _ _ aw an aK;have ai:=aa.ck aw an aK ao;have ae:=au.ck aF ai;have ak:=aF.sub aV;obtain⟨bo,_,aQ,bw,bx,b7,bA,bD⟩:=id ae;generalize H2.up k=H3 at *;have bd:=QqD x.f.slots 4;have ab:Kw x.f l=if 0<=Qh x.f.slots 4 then IntKind.u8.wrap (IntKind.u8.wrap x.f.code+IntKind.u8.wrap (WY (l[(Qh x.f.slots 4).toNat]?.getD WN).r)) else IntKind.u8.wrap x.f.code:=rfl
 simp only[Qb,simprocAttr];refine Qg (λh=>?_) (λh=>?_)
 ·have aS:0<=Qh x.f.slots 4:=Lg h;rw[Lc aS]at ab;obtain⟨j,ba⟩:∃j:Nat,Qh x.f.slots 4=j:=⟨(Qh x.f.slots 4).toNat,by omega⟩;rw[ba]at bd ab ⊢;obtain⟨c,ax⟩:∃c,l[j]? = some c:=⟨_,La (by omega)⟩;have aZ:l[(j:Int).toNat]?.getD WN=c:=by rw[show(j:Int).toNat=j by omega,ax];rfl
  rw[aZ]at ab;obtain⟨b,e',ro,aP,aB⟩:=(show 0<l.length->∃b e' ro,a0=some ⟨b,0,none⟩∧Hz.get b=some (.cells (Ql l) e' ro) by obtain⟨_,_,e0,aT⟩:=ac;cases e0;exact aT) (by omega);subst aP;have aY:H3.get b=some (.cells (Ql l) e' ro):=by rw[bo.get b (ad.lt aB)];exact aB
  have d1:(0:Int)<=j∧(j:Int)<l.length:=by omega
  have d3:(j:Int).toNat=j:=by omega
  have bi:=Qe1 ax;have bc:j * 11+1+2<=(Ql l).length:=by rw[Wb];omega
  have q:=Vn c.r;simp only[Rg.cells]at q;simp only[Qb,simprocAttr,aQ,d1,d3,aY,bi];refine⟨bc,?_⟩;refine(q H3).w ?_;rintro _ _ bh bj ⟨rfl,k4,rfl⟩;have aL:Ext H3 (H3.up k4):=(Ext.refl H3).up bh;obtain⟨aX,aW⟩:=aa.ext _ _ _ ag ao aL;have aC:=aa.ck ag ao aL bj;simp only[Qb,simprocAttr];refine QKo aa ay aA hx ac ad aH aj aD aJ aI aM ap az (ae.ck ak aC) (ak.sub aW) aX ((ah.trans ai).trans aC) ?_ ?_ ?_ ?_ ?_ ?_ ?_
  all_goals simp only[Qd,simprocAttr]
  rw[ab]
 rw[Le (by have:=Ll h;omega)]at ab;simp only[Qb,simprocAttr];refine QKo aa ay aA hx ac ad aH aj aD aJ aI aM ap az ae ak ag (ah.trans ai) ?_ ?_ ?_ ?_ ?_ ?_ ?_
 all_goals simp only[Qd,simprocAttr]
 rw[ab]
end
def Qt7:∀ (ss:List Value) (ws:List Ld) (i:Nat) (s:Value) (w:Ld),ss[i]? = some s->ws[i]? = some w->((ldC ss ws).drop (i * 3)).take 3=[s,.Z w.x,.Z w.h]
 | [],_,_,_,_,h,_=>by simp at h
 | _::_,[],_,_,_,_,h=>by simp at h
 | s::ss,w::ws,0,_,_,h1,h2=>by cases h1;cases h2;rfl
 | s::ss,w::ws,i+1,s',w',h1,h2=>by
  have e:ldC (s::ss) (w::ws)=[s,.Z w.x,.Z w.h]++ldC ss ws:=rfl;rw[e,show(i+1) * 3=3+i * 3 by omega,<- Rc];exact Qt7 ss ws i s' w' h1 h2
structure QGf (base lb:Nat) (items:List Ld) (Hz:Qa) (x:Lf) (op:Int) (va:Value) (e:List Int) (R:Nat->Qa->Prop) (Own:Qa->Nat->Prop):Prop where
 ext:∀j H H',R j H->H.Wf->Ext H H'->R j H'∧∀id,Own H' id->Own H id
 low:∀j H id,R j H->Own H id->id<H.y
 go:∀j w H Hs p1 p2 p3 p4 s tl,items[j]? = some w->R j H->PfF Hz Hs H x op va p1 p2 p3 p4 s tl w e->PfO (Own H) Hz p1 p2 p3 p4 s tl->base<=H.y->YQ Pg lb [.func (.func 143) #[] #[.P p1,.P p2,.P p3,.P p4]] H λu H'=>u=.bool true∧R (j+1) H'∧CK Own H H'
def QGf.ck {base ae:Nat}{ad:List Ld}{Hz:Qa}{x:Lf}{op:Int}{va:Value}{e:List Int}{R:Nat->Qa->Prop}{Own:Qa->Nat->Prop}(h:QGf base ae ad Hz x op va e R Own){j:Nat}{H H':Qa}(aa:R j H)(ab:H.Wf)(hx:Ext H H')(ac:H'.Wf):CK Own H H':=
 ⟨hx.y,ac,λid q _=>hx.get id q,λid q=>.inl ((h.ext j H H' aa ab hx).2 id q)⟩
def Yb.keep2 {e:TypeId}{H0 H H':Qa}{v:Value}{ws:List Ld}(h:Yb e H0 H v ws)(q:H.Wf)(ae:∀id,H0.y<=id->id<H.y->H'.get id=H.get id):Yb e H0 H' v ws:=by
 obtain⟨ss,ag,aa,ab⟩:=h.it;exact⟨ss,ag,aa.ext λid hi=>ae id (aa.low q hi).1 (aa.low q hi).2,λj s w ac ad=>(ab j s w ac ad).ext λid hi=>ae id ((ab j s w ac ad).low q hi).1 ((ab j s w ac ad).low q hi).2⟩
def QGg {base aM ae ag:Nat}{x:Lf}{op:Int}{va:Value}{l:List Ar}{Hz H:Qa}{R:Nat->Qa->Prop}{Own:Qa->Nat->Prop}(ac:QGf base aM (WT x.f l) Hz x op va (Jp x.f op l) R Own)(bY:base<=H.y)(hx:x.At Hz)(bH:x.Fr 0)(aJ:Wg Hz va l)(az:Hz.Wf)(cj:∀n,Hz.y<=n->Qp n 6 (.agg #[.Z op,va])=true)(aY:l.length<=1000)(bA:∀a∈l,I64 a.n)(aZ:x.f.slots.length=l.length)(ch:(WT x.f l).length<=1000)
  (aB:Ext Hz H) (bn:∀id,id<Hz.y->¬Own H id) (ak:H.get ae=some (.C x.cells 57)) (am:H.get ag=some (.C [.Z op,va] 26)) (of:¬Own H ae) (bU:¬Own H ag) (aI:R 0 H):
  Qe Pg 92 [.func (.yield aM) #[] #[],.P ae,.P ag] H λu H'=>R (WT x.f l).length H'∧CK Own H H':=by
 refine Qml λaj=>?_;have aF:x.cells.take 10=x.cells:=rfl;have aL:10<=x.cells.length:=Lb _;obtain⟨a0,cap,rfl⟩:=Xt aJ;simp only[Qdt,Qb,simprocAttr,ak,am,aF];refine⟨aL,?_⟩;refine(QrQ H (hx.ext az aB) bH (aJ.ext az aB) aY bA aZ).w ?_;rintro cq H2 ca bP ⟨bg,ar⟩;obtain⟨aD,aE,rfl⟩:=bg.slc;have b7:H2.get ae=some (.C x.cells 57):=by rw[ar.get _ (aj.lt ak)];exact ak
 have b8:H2.get ag=some (.C [.Z op,.slice a0 l.length cap] 26):=by rw[ar.get _ (aj.lt am)];exact am
 have bm:=aB.trans ar;simp only[Qb,simprocAttr,b7,b8,aF];refine⟨aL,?_⟩;refine(Qop H2 (hx.ext az bm) (aJ.ext az bm) aY aZ).w ?_;rintro v3 H3 cb aa ⟨ay,bi⟩;have au:=ar.trans bi;have aq:=bg.go bP bi;obtain⟨aU,ao⟩:=ac.ext _ _ _ aI aj au;have aW:=ac.ck aI aj au aa;have ay:=ay.down ar.y;have aw:∀id,H.y<=id->¬Own H3 id:=λid aG ab=>by have:=ac.low _ _ _ aI (ao _ ab);omega
 obtain⟨bq,bX,rfl⟩:=ay.slc;have aC:=aB.trans au;have aQ:H3.get ae=some (.C x.cells 57):=by rw[au.get _ (aj.lt ak)];exact ak
 have aS:H3.get ag=some (.C [.Z op,.slice a0 l.length cap] 26):=by rw[au.get _ (aj.lt am)];exact am
 generalize ci:WT x.f l=W at *;simp only[Qb,simprocAttr];refine Qu (λm A' H'=>∃i:Nat,i<=W.length∧m=W.length - i∧R i H'∧CK Own H3 H'∧A' 0=.func (.yield aM) #[] #[]∧A' 1=.P ae∧A' 2=.P ag∧A' 4=.slice aD (Jp x.f op l).length aE∧A' 12=.slice bq W.length bX∧A' 13=.Z W.length∧A' 14=.Z i) W.length ?_ ?_
 ·refine⟨0,L7 _,by omega,aU,ac.ck aU aa (.refl _) aa,?_,?_,?_,?_,?_,?_,?_⟩
  all_goals simp only[Qd,simprocAttr]
  all_goals rfl
 rintro m A' H' ⟨i,hi,rfl,av,ad,bo,r1,r2,r4,bp,r13,aN⟩;have ah:=ad.w;simp only[Qb,simprocAttr,r13,aN];refine Qg (λab=>?_) (λab=>?_)
 ·have ab:i<W.length:=by have:=Lg ab;omega
  obtain⟨ss,bN,bK,bJ⟩:=ay.it;obtain⟨b,bG,rfl,aV⟩:∃b,H.y<=b∧bq=some ⟨b,0,none⟩∧H3.get b=some (.C (ldC ss W) 159):=by
   rcases bK with⟨h,h',_⟩ | ⟨b,c,h,bV,bW,_⟩;·omega
   cases h;exact⟨b,bV,rfl,bW⟩
  have bI:H'.get b=some (.C (ldC ss W) 159):=by rw[ad.keep _ (aa.lt aV) (aw _ bG)];exact aV
  obtain⟨sv,bd⟩:∃sv,ss[i]? = some sv:=⟨_,La (by omega)⟩;obtain⟨w,aK⟩:∃w,W[i]? = some w:=⟨_,La ab⟩;have ap:=bJ i sv w bd aK;have bc:=ap.ext (H':=H') λid q=>ad.keep id (ap.low aa q).2 (aw _ (ap.low aa q).1);have bO:=aq.ext (H':=H') λid q=>ad.keep id (aq.low aa q).2 (aw _ (aq.low aa q).1);have bF:=Qt7 ss W i sv w bd aK;have bZ:(ldC ss W).length=W.length * 3:=by rw[QtW _ _ bN]
  have d1:(0:Int)<=i∧(i:Int)<W.length:=by omega
  have d3:(i:Int).toNat=i:=by omega
  have br:IntKind.i64.wrap ((i:Int)+1)=((i+1:Nat):Int):=by rw[w64 (by unfold I64;omega)];omega
  have aR:H'.get ae=some (.C x.cells 57):=by rw[ad.keep _ (aa.lt aQ) (λh=>of (ao _ h))];exact aQ
  have aT:H'.get ag=some (.C [.Z op,.slice a0 l.length cap] 26):=by rw[ad.keep _ (aa.lt aS) (λh=>bU (ao _ h))];exact aS
  obtain⟨aO,aP,rfl⟩:=bc.slc;have co:=ah.lt aR;have cp:=ah.lt aT;have bS:¬ae=H'.y:=by omega
  have bT:¬ag=H'.y:=by omega
  simp only[Qb,simprocAttr,bo,r1,r2,r4,bp,aN,d1,d3,bI,bF,bS,bT,aR,aT,aF];refine⟨by omega,aL,?_⟩;generalize aH:(H'.push _).set H'.y _=H5;have bj:Ext H' H5:=by rw[<- aH];exact((Ext.refl H').push _).set (Lb _) _
  have cl:H5.Wf:=by rw[<- aH];exact(ah.push _).set (b0:=.C [.slice none 0 0,.Z 0,.Z 0] 159) (by rw[Qc,Lc rfl]) _
  clear aH;refine(QlK H5 rfl rfl).w ?_;rintro _ H6 cf bh ⟨rfl,bQ,ce,bu,bw,bx,bz⟩;have aA:=bj.trans bQ;obtain⟨bD,bB⟩:=ac.ext _ _ _ av ah aA;have ai:=(ad.trans (ac.ck av ah aA bh));have ax:∀id,H'.y<=id->¬Own H6 id:=λid aG ab=>by have:=ac.low _ _ _ av (bB _ ab);omega
  have ba:∀id,H.y<=id->id<H3.y->¬Own H6 id:=λid aG ab b9=>by
   rcases ai.own id b9 with an | an;·exact aw id aG an
   omega
  have bR:Ext Hz H6:=⟨by have:=aC.y;have:=ai.y;omega,λid q=>by rw[ai.keep id (by have:=aC.y;omega) (λh=>bn id q (ao _ h))];exact aC.get id q⟩;have bC:PfF Hz H H6 x op (.slice a0 l.length cap) (H5.y+1) (H5.y+2) H5.y (H5.y+3) (.slice aO w.b.length aP) (.slice aD (Jp x.f op l).length aE) w (Jp x.f op l):=⟨bR,bh,bw,bx,bu,bz,bc.go ah aA,bO.go ah aA⟩;have cc:=bj.y;have bM:PfO (Own H6) Hz (H5.y+1) (H5.y+2) H5.y (H5.y+3) (.slice aO w.b.length aP) (.slice aD (Jp x.f op l).length aE):=
   ⟨λid q h=>by
    rcases ai.own id h with an | an;·exact bn id q (ao _ an)
    have:=aC.y;omega,
   ax _ (by omega),ax _ (by omega),ax _ (by omega),ax _ (by omega),λid q=>ba id (ap.low aa q).1 (ap.low aa q).2,λid q=>ba id (aq.low aa q).1 (aq.low aa q).2⟩
  simp only[Qb,simprocAttr,QaR];refine QhN (ac.go i w H6 H _ _ _ _ _ _ aK bD bC bM (by have:=aW.y;have:=ai.y;omega)) ?_;rintro _ H7 cg cm ⟨rfl,bE,bL⟩;simp only[Qb,simprocAttr,aN,br];refine⟨W.length - (i+1),by omega,i+1,by omega,rfl,bE,ai.trans bL,?_,?_,?_,?_,?_,?_,?_⟩
  all_goals simp only[Qd,simprocAttr,bo,r1,r2,r4,bp,r13]
 have ab:i=W.length:=by have:=Ll ab;omega
 subst ab;simp only[Qb,simprocAttr,Qks];have aX:=aW.trans ad;exact .mk aX.y ⟨av,aX⟩
def Gx.keepS {size:Nat}{e:TypeId}{H0 H H':Qa}{v:Value}{n:Nat}{cs:List Value}(h:Gx size e H0 H v n cs)(ac:∀id,H.get id≠none->H'.get id=H.get id):Gx size e H0 H' v n cs:=by
 rcases h with h | ⟨b,c,rfl,aa,q,ab⟩;·exact .inl h
 exact .inr ⟨b,c,rfl,aa,by rw[ac b (by rw[q];simp)];exact q,ab⟩
def Yb.keepS {e:TypeId}{H0 H H':Qa}{v:Value}{ws:List Ld}(h:Yb e H0 H v ws)(q:∀id,H.get id≠none->H'.get id=H.get id):Yb e H0 H' v ws:=by
 obtain⟨ss,aa,ab,ac⟩:=h.it;exact⟨ss,aa,ab.keepS q,λj s w ad ae=>(ac j s w ad ae).keepS q⟩
def Gx.keep2 {size:Nat}{e:TypeId}{H0 H H':Qa}{v:Value}{n:Nat}{cs:List Value}(h:Gx size e H0 H v n cs)(q:H.Wf)(aa:∀id,H0.y<=id->id<H.y->H'.get id=H.get id):Gx size e H0 H' v n cs:=h.ext λid hi=>aa id (h.low q hi).1 (h.low q hi).2
def QsG {H1 H2:Qa}(ab:H1.Wf)(hx:Ext H1 H2)(l:Nat)(id:Nat)(aa:(H1.kill l).get id≠none):(H2.kill l).get id=(H1.kill l).get id:=by
 rw[WE]at aa;rw[WE,WE]
 by_cases q:id=l;·rw[Lc q,Lc q]
 rw[Le q]at aa;rw[Le q,Le q];refine hx.get id ?_;rcases Nq id H1.y with h | h;·exact h
 exact absurd (ab id h) aa
def QIT:PC:=.ops [Ow 8 (.alloc 40 [.slice none 0 0,.Z 0,.Z 0]),Ov (.st 3 (t 8) (t 18))]
def QIU:PC:=.block 3 (.ops [Ow 19 (.ld false 1 (t 6)),Ow 20 (.ld true 3 (t 8)),Ow 21 (.bslice 40 3 1 [.slice none 0 0,.Z 0,.Z 0] [(0,(t 20))]),Ow 22 (.app 40 3 40 (t 19) (t 21)),Ov (.st 1 (t 6) (t 22))])
def lyR (Hb:Qa)(c m lB:Nat)(eC:TypeId)(bl:Blk)(W:List Ld)(j:Nat)(H':Qa):Prop:=
 H'.get lB=some bl∧lB<H'.y∧Hb.y<=H'.y∧(∀id,id<Hb.y->id≠c->id≠m->H'.get id=Hb.get id)∧∃v,H'.get c=some (.C [v] eC)∧LsU 40 Hb (H'.kill lB) v (W.take j) H'.y∧∀id,inB v id->id<H'.y∧Hb.y<=id∧id≠lB
section
variable {Hb:Qa} {c m lB:Nat} {eC:TypeId} {bl:Blk} {W:List Ld}
def QzF (am:c<Hb.y){j:Nat}{H1 H2:Qa}(h:lyR Hb c m lB eC bl W j H1)(ai:H1.Wf)(hx:Ext H1 H2):lyR Hb c m lB eC bl W j H2∧∀id,clO c lB eC H2 id->clO c lB eC H1 id:=by
 obtain⟨aa,ag,ak,ab,v,ac,ad,ae⟩:=h;have ah:=hx.y;have q:=hx.get c (by omega);refine⟨⟨by rw[hx.get lB ag];exact aa,by omega,by omega,λid a b d=>by rw[hx.get id (by omega)];exact ab id a b d,v,by rw[q];exact ac,(ad.of λg=>g.keepS (QsG ai hx lB)).mono ah,λid hi=>?_⟩,λid hi=>?_⟩;·have:=ae id hi;exact⟨by omega,this.2⟩
 rcases hi with h | h | ⟨aj,h,hi⟩;·exact .inl h
 ·exact .inr (.inl h)
 exact .inr (.inr ⟨aj,by rw[<- q];exact h,hi⟩)
def QzG (ag:c<Hb.y){j:Nat}{H1:Qa}(h:lyR Hb c m lB eC bl W j H1){id:Nat}(hi:clO c lB eC H1 id):id<H1.y:=by
 obtain⟨ab,ah,ac,ad,v,q,ae,aa⟩:=h;rcases hi with rfl | rfl | ⟨ai,h,hi⟩;·omega
 ·omega
 rw[q]at h;cases h;exact(aa id hi).1
def QIV {L:Option Code->Blk}{A:Env}(aq:c<Hb.y)(ar:c≠lB)(aS:m=lB∨Hb.y<=lB)(bn:W.length<=1000)(aN:YR Pg L [18] QIT QIU A)(aE:A 6=.P c){aa base:Nat}{aC:List Ld}(bo:Hb.y<=base)(au:lB<base)(hit:∀ (i:Nat) w,aC[i]? = some w->W[aa+i]? = some w):
  Cns base lB aC LdV (λi=>lyR Hb c m lB eC (L none) W (aa+i)) (clO c lB eC):=by
 refine⟨λj Ha Hc h aY hx=>QzF aq h aY hx,λj Ha id h hi=>QzG aq h hi,?_⟩;rintro j w H0' H1' bA aQ aL aM aW ⟨s,rfl,av⟩ bp ax bm ak;obtain⟨aH,bu,aI,aJ,v,ag,_,az⟩:=aL;have ai:LsU 40 Hb (H1'.kill lB) v (W.take (aa+j)) H0'.y:=by
  obtain⟨_,_,aI,_,bi,aK,ai,_⟩:=aM;rw[ax.get c (by omega),aK]at ag;cases ag;exact ai.of λg=>g.keepS (QsG aW ax lB)
 refine aN lB _ H1' _ aH rfl ?_ ak;have aA:=hit j w aQ;have br:=(Lk.1 aA).1;have am:∀id,id≠lB->(H1'.kill lB).get id=H1'.get id:=λid ac=>by rw[WE,Le ac]
 have bc:(H1'.kill lB).get lB=none:=by rw[WE,Lc rfl]
 have bz:(H1'.kill lB).y=H1'.y:=rfl;have aw:(H1'.kill lB).Wf:=ak.kill _;have k5:=(am c ar).trans ag;have ks:Gx 1 5 Hb (H1'.kill lB) s w.b.length (bys w.b):=(av.down (H0:=Hb) (by omega)).ext λid ac=>am id (by have:=av.low ak ac;omega);have k3:∀id,id<Hb.y->id≠c->id≠m->id≠lB->(H1'.kill lB).get id=Hb.get id:=λid a b d e=>(am id e).trans (aJ id a b d);generalize bj:H1'.kill lB=Hk at *;obtain⟨a,ao,rfl⟩:=ks.slc;obtain⟨an,ap,rfl⟩:=ai.ls.slc;have bd:¬c=Hk.y:=by omega
 simp only[QIT,QIU,Qjg,Qmc,Qb,simprocAttr,bd,k5,aE];generalize ah:Qa.push (Qa.set (Qa.push Hk _) _ _) _=H5;have ad:Ext Hk H5:=by rw[<- ah];exact(((Ext.refl Hk).push _).set (Lb _) _).push _
 have aX:H5.Wf:=by rw[<- ah];exact((aw.push _).set (b0:=.C [.slice none 0 0,.Z 0,.Z 0] 40) (by rw[Qc,Lc rfl]) _).push _
 have aG:H5.get (Hk.y+1)=some (.C [.slice a w.b.length ao,.Z w.x,.Z w.h] 40):=by rw[<- ah,Qc,Lc (by rw[QR,Qf])]
 have bx:H5.y=Hk.y+2:=by rw[<- ah,Qf,QR,Qf]
 clear ah;have aT:Zx 3 (.S (Hk.y+1) 1 1) H5=some (1,[.slice a w.b.length ao,.Z w.x,.Z w.h]):=by
  rw[Gg aG (by decide) (by simp)];rfl
 have bw:(W.take (aa+j)).length<=1000:=by rw[Sb];omega
 obtain⟨Hz,aB,b8⟩:∃Hz:Qa,Ext Hz H5∧Hz.y=Hb.y:=⟨⟨Hb.y,H5.tr⟩,⟨by show Hb.y<=H5.y;omega,λid _=>rfl⟩,rfl⟩;have aR:LsU 40 Hz H5 (.slice an (W.take (aa+j)).length ap) (W.take (aa+j)) H0'.y:=(ai.go aw ad).down (by omega);have aU:Gx 1 5 Hz H5 (.slice a w.b.length ao) w.b.length (bys w.b):=(ks.go aw ad).down (by omega);refine Qzz (by decide) aR (U':=Hk.y) (by have:=ax.y;omega) (λa aO=>by have:=av.low ak aO;omega) aB aX aU aT (by omega) (by omega) ?_;intro bi H6 aj ab;obtain⟨aF,c',rfl⟩:=aj.ls.slc;have aV:W.take (aa+(j+1))=W.take (aa+j)++[w]:=by rw[<- Rh,Nv,aA];rfl
 rw[<- aV]at aj ab ⊢;have ay:∀id,id<Hb.y->H6.get id=H5.get id:=λid ac=>(ab.x.get id (by omega)).trans (aB.get id (by omega)).symm;have aZ:H6.get c=some (.C [.slice an (W.take (aa+j)).length ap] eC):=by rw[ay _ aq,ad.get _ (by omega)];exact k5
 have b7:=ab.y;have ba:H6.get lB=none:=by
  rw[ab.keep lB (by omega) (λh=>(az lB h).2.2 rfl),ad.get _ (by omega)];exact bc
 simp only[Qb,simprocAttr,Qjf,aE,aZ];refine⟨by omega,⟨by rw[Qj,Lc rfl],by rw[QR,QR];omega,by rw[QR,QR];omega,λid p q r=>?_,.slice aF (W.take (aa+(j+1))).length c',?_,?_,λid hi=>?_⟩,⟨by rw[QR,QR];omega,?_,λid p q=>?_,λid hi=>?_⟩⟩
 ·have au:id≠lB:=by rcases aS with h | h;rw[<- h];exact r;omega
  rw[Qj,Le au,Qj,Le q,ay _ p,ad.get _ (by omega)];exact k3 id p q r au
 ·rw[Qj,Le ar,Qj,Lc rfl]
 ·refine((aj.down (H0:=Hb) (by omega)).of λg=>g.keep2 ab.w λid ac bq=>?_).mono (by rw[QR,QR];have:=ad.y;omega);rw[WE]
  by_cases ae:id=lB;·rw[Lc ae,ae,ba]
  rw[Le ae,Qj,Le ae,Qj,Le (by omega)]
 ·obtain⟨ss,_,aP,_⟩:=aj.it;have:=aP.low ab.w hi;rw[QR,QR];refine⟨this.2,by omega,λae=>?_⟩;rcases ab.new id hi with h | h;·exact(az id h).2.2 ae
  omega
 ·intro id ac;rw[QR,QR]at ac;rw[Qj,Le (by omega),Qj,Le (by omega)];exact ab.w id ac
 ·have bg:id≠c:=λh=>q (.inl h);have aD:id≠lB:=λh=>q (.inr (.inl h));have bh:¬inB (.slice an (W.take (aa+j)).length ap) id:=λh=>q (.inr (.inr ⟨_,ag,h⟩));rw[Qj,Le aD,Qj,Le bg,ab.keep id (by omega) bh,ad.get _ (by omega),am id aD]
 rcases hi with h | h | ⟨b9,h,hi⟩;·exact .inl (.inl h)
 ·exact .inl (.inr (.inl h))
 rw[Qj,Le ar,Qj,Lc rfl]at h;cases h;rcases ab.new id hi with h | h;·exact .inl (.inr (.inr ⟨_,ag,h⟩))
 exact .inr (by omega)
end
def QKp:PC:=.ops [Om 7 (t 16)]
def QKq:PC:=.block 1 (.seq (.ops [Om 17 (t 7)]) (.block 2 (.rangeF (t 17) [18] QIT QIU)))
def Qwm (f:Ld->List Ld)(P:List Ld)(j:Nat):Nat:=((P.take j).flatMap f).length
def QIW {f:Ld->List Ld}{P:List Ld}{j:Nat}{w:Ld}(h:P[j]? = some w):Qwm f P (j+1)=Qwm f P j+(f w).length∧∀ (i:Nat) y,(f w)[i]? = some y->(P.flatMap f)[Qwm f P j+i]? = some y:=by
 have q:P.take (j+1)=P.take j++[w]:=by rw[Nv,h];rfl
 refine⟨by unfold Qwm;rw[q,Bm,Lh];simp,λi y aa=>?_⟩;have ac:=(Lk.1 h).1;have ab:P.flatMap f=(P.take j).flatMap f++(f w++(P.drop (j+1)).flatMap f):=by
  conv=>lhs;rw[<- NW (j+1) P]
  rw[Bm,q,Bm];simp
 have hi:=(Lk.1 aa).1;rw[ab];unfold Qwm;rw[LR (Ro _ _),NL,LY hi];exact aa
section
variable {Hb:Qa} {c m:Nat} {eC:TypeId}
def QIX {L:Option Code->Blk}{A:Env}{x:Lf}{op:Int}{va:Value}{l:List Ar}{e:List Int}{Hz:Qa}{P:List Ld}(an:c<Hb.y)(bI:m<Hb.y)(ai:c≠m)(aR:(P.flatMap (Qel x.f l e)).length<=1000)(aS:YR Pg L [16] QKp QKq A)(bE:A 6=.P c)
  (aZ:FOk x.f) (hx:x.At Hz) (aU:Wg Hz va l) (b7:Hz.Wf) (bm:∀n,Hz.y<=n->Qp n 6 (.agg #[.Z op,va])=true) (bc:l.length<=1000) (bh:x.f.slots.length=l.length) (aY:e.length<=2000)
  (aP:∀w∈P,(0<=w.x∧w.x<2)∧(0<=w.h∧w.h<2)∧(x.f.vex=true->(vxF x.f l w.x w.h).Ok)∧w.b.length<=1000):
  QGf Hb.y m P Hz x op va e (λj=>lyR Hb c m m eC (L none) (P.flatMap (Qel x.f l e)) (Qwm (Qel x.f l e) P j)) (clO c m eC):=by
 refine⟨λj Ha Hc h bp hx=>QzF an h bp hx,λj Ha id h hi=>QzG an h hi,?_⟩;rintro j w H Hs ap aq ar au s aE aA aQ aa ab bG;obtain⟨ak,bH,aK,aL,v,am,aM,ay⟩:=id aQ;intro bn;refine aS m _ H _ ak rfl ?_ bn;have bA:clO c m eC H m:=.inr (.inl rfl);have b8:∀id,id≠m->(H.kill m).get id=H.get id:=λid ac=>by rw[WE,Le ac]
 have b9:(H.kill m).get m=none:=by rw[WE,Lc rfl]
 have bj:(H.kill m).y=H.y:=rfl;have aB:(H.kill m).Wf:=aa.wf.kill _;generalize H.kill m=Hk at *;simp only[QKp,QKq,Qjg,Qmc,QbZ,simprocAttr,Qd,simprocAttr,Qez];rw[Qpo 143 [] [.P ap,.P aq,.P ar,.P au]];intro L2 aT;refine⟨by kernel_rfl,?_⟩;have ao:Ext Hk (Hk.push (L2 none)):=(Ext.refl Hk).push _;have bL:(Hk.push (L2 none)).y=H.y+1:=by rw[Qf,bj]
 have aI:(Hk.push (L2 none)).get Hk.y=some (L2 none):=by rw[Qc,Lc rfl]
 have bu:=aB.push (L2 none);generalize Hk.push (L2 none)=Hi at *;have ad:∀id,id≠m->id<H.y->Hi.get id=H.get id:=λid ak aK=>by rw[ao.get id (by omega),b8 id ak]
 have ah:Hi.get c=some (.C [v] eC):=by rw[ad c ai (by omega)];exact am
 have ae:∀id,id<H.y->¬clO c m eC H id->¬clO c Hk.y eC Hi id:=λid aC aw aD=>by
  rcases aD with q | q | ⟨aF,q,av⟩;·exact aw (.inl q)
  ·omega
  rw[ah]at q;cases q;exact aw (.inr (.inr ⟨_,am,av⟩))
 have ne:∀ {id},¬clO c m eC H id->id≠m:=λq h=>q (h▸bA);have aN:PfF Hz Hs Hi x op va ap aq ar au s aE w e:=
  ⟨⟨by have:=aa.z.y;omega,λid ac=>by rw[ad id (ne (ab.z id ac)) (by have:=aa.z.y;omega)];exact aa.z.get id ac⟩,bu,by rw[ad _ (ne ab.o1) (aa.wf.lt aa.g1)];exact aa.g1,by rw[ad _ (ne ab.o2) (aa.wf.lt aa.g2)];exact aa.g2,by rw[ad _ (ne ab.o3) (aa.wf.lt aa.g3)];exact aa.g3,by rw[ad _ (ne ab.o4) (aa.wf.lt aa.g4)];exact aa.g4,
   aa.s.ext λid hi=>ad id (ne (ab.s id hi)) (aa.s.low aa.wf hi).2,aa.t.ext λid hi=>ad id (ne (ab.t id hi)) (aa.t.low aa.wf hi).2⟩
 have aO:PfO (clO c Hk.y eC Hi) Hz ap aq ar au s aE:=⟨λid q=>ae id (by have:=aa.z.y;omega) (ab.z id q),ae _ (aa.wf.lt aa.g1) ab.o1,ae _ (aa.wf.lt aa.g2) ab.o2,ae _ (aa.wf.lt aa.g3) ab.o3,ae _ (aa.wf.lt aa.g4) ab.o4,λid q=>ae id (aa.s.low aa.wf q).2 (ab.s id q),λid q=>ae id (aa.t.low aa.wf q).2 (ab.t id q)⟩;obtain⟨aV,aW⟩:=QIW (f:=Qel x.f l e) aA;obtain⟨bz,br,bx,bw⟩:=aP w (Ln aA);generalize bF:P.flatMap (Qel x.f l e)=W at *;have aX:=QIV (Hb:=Hb) (c:=c) (m:=m) (lB:=Hk.y) (eC:=eC) (W:=W) (base:=Hi.y) an (by omega) (.inr (by omega)) aR aT (by simp only[Qd,simprocAttr,bE]) (by omega) (by omega) aW;refine(Qwl aX (Lb _) aZ hx aU b7 bm bc bh bz br bx bw aY aN aO ?_).w ?_
 ·refine⟨aI,by omega,by omega,λid a b d=>by rw[ad id d (by omega)];exact aL id a b d,v,ah,(aM.of λg=>g.keepS λid ac=>?_).mono (by omega),λid hi=>?_⟩;·have bd:id<Hk.y:=Nat.lt_of_not_le λh=>ac (aB id h);rw[WE,Le (by omega)];exact ao.get id bd
  have:=ay id hi;exact⟨by omega,this.2.1,by omega⟩
 rintro u H2 bJ bo ⟨az,aj⟩;rw[<- aV]at az;obtain⟨aC,aw,aD,bB,aF,ax,bC,bD⟩:=id az;refine⟨none,aC,?_⟩;have bg:H2.get m=none:=by
  rw[aj.keep m (by omega) ?_,ao.get m (by omega)];·exact b9
  rintro(h | h | ⟨aG,h,h'⟩);·exact ai h.symm
  ·omega
  rw[ah]at h;cases h;have:=ay m h';omega
 have ag:∀id,id≠m->id≠Hk.y->((H2.kill Hk.y).set m (L none)).get id=H2.get id:=λid a b=>by rw[Qj,Le a,WE,Le b]
 have bi:((H2.kill Hk.y).set m (L none)).y=H2.y:=rfl;have aJ:((H2.kill Hk.y).set m (L none)).get m=some (L none):=by rw[Qj,Lc rfl]
 have bq:((H2.kill Hk.y).set m (L none)).Wf:=λid ac=>by
  rw[bi]at ac;rw[ag id (by omega) (by omega)];exact bo id ac
 have ba:∀id,id≠m->id≠Hk.y->(((H2.kill Hk.y).set m (L none)).kill m).get id=H2.get id:=λid a b=>by rw[WE,Le a];exact ag id a b
 simp only[Qb,simprocAttr,Qmb,Qjf];generalize (H2.kill Hk.y).set m (L none)=Hf at *;have bK:=aj.y;refine⟨by show H.y<=H2.y;omega,⟨aJ,by omega,by omega,λid a b d=>by rw[ag id d (by omega)];exact bB id a b d,aF,by rw[ag c ai (by omega)];exact ax,(bC.of λg=>g.keepS λid ac=>?_).mono (by omega),λid hi=>?_⟩,⟨by omega,bq,λid a b=>?_,λid a=>?_⟩⟩
 ·rw[WE]at ac;split at ac;·exact absurd rfl ac
  rename_i q;have av:id≠m:=λh=>ac (h▸bg);rw[ba id av q,WE,Le q]
 ·have:=bD id hi;exact⟨by omega,this.2.1,by omega⟩
 ·rw[ag id (ne b) (by omega),aj.keep id (by omega) (ae id a b),ad id (ne b) a]
 rcases a with a | a | ⟨aG,a,aH⟩;·exact .inl (.inl a)
 ·exact .inl (.inr (.inl a))
 rw[ag c ai (by omega),ax]at a;cases a;rcases aj.own id (.inr (.inr ⟨_,ax,aH⟩)) with h | h
 ·rcases h with h | h | ⟨aG,h,h'⟩;·exact .inl (.inl h)
  ·exact .inr (by omega)
  rw[ah]at h;cases h;exact .inl (.inr (.inr ⟨_,am,h'⟩))
 exact .inr (by omega)
end
def Vp {f:Fm}{op:Int}{l:List Ar}(h:Qe3 f op l=true):f.op=op∧f.shapes.length=l.length∧Qhw f=0∧QZ op l=0∧∀i,i<l.length->QfR (Qy op l) (l.getD i WN) (f.shapes.getD i 0)=true:=by
 unfold Qe3 at h;simp only[Lm,L0,Li,LU]at h;exact⟨h.1.1.1.1,h.1.1.1.2,h.1.1.2,h.1.2,h.2⟩
def Qwn (x:Int):∀ (l:List Int) (k:Nat),0<=Ke l x k->(k:Int)<=Ke l x k∧l.getD ((Ke l x k).toNat - k) 0=x
 | [],k,h=>by simp[Ke]at h
 | y::l,k,h=>by
  unfold Ke at h ⊢;split;·rename_i e;exact⟨B0 _,by simp[e]⟩
  rename_i e;rw[Le e]at h;obtain⟨aa,q⟩:=Qwn x l (k+1) h;refine⟨by omega,?_⟩;have e2:(Ke l x (k+1)).toNat - k=((Ke l x (k+1)).toNat - (k+1))+1:=by omega
  rw[e2,List.getD_cons_succ];exact q
def Qt8 {l:List Int}{x:Int}(h:0<=Qh l x):l.getD (Qh l x).toNat 0=x:=(Qwn x l 0 h).2
def QqO:∀ {l:List Ar},errA l=0->∀a∈l,QJ a=0
 | [],_,_,h=>by cases h
 | a::l,h,b,aa=>by
  unfold errA at h;split at h
  ·rename_i q;rcases LK.1 aa with rfl | aa;·simpa using q
   exact QqO h b aa
  rename_i q;simp[h]at q
def QnQ {op:Int}{l:List Ar}(h:QZ op l=0):errA l=0∧l.length<=4:=by
 unfold QZ at h;split at h;·simp at h
 split at h;·simp at h
 split at h;·rename_i q;simp[h]at q
 rename_i ab ac aa;exact⟨by simpa using aa,by omega⟩
def Qwo {r:Rg}(h:Wv r=true):0<=r.n∧r.n<16:=by
 unfold Wv Qf6 at h;simp only[Lv]at h;split at h;·simp only at h;omega
 split at h;·simp only at h;omega
 split at h<;>simp only at h<;>omega
def QDL {f:Fm}{op:Int}{l:List Ar}(h:Qe3 f op l=true){s:Int}(av:s=1∨s=3∨s=4∨s=7)(ai:0<=Qh f.slots s):∃a,l[(Qh f.slots s).toNat]? = some a∧a.k=1∧(1<=a.r.c∧a.r.c<=7)∧Wv a.r=true:=by
 obtain⟨_,ar,ah,aj,ak⟩:=Vp h;have aw:=QoQ ah;have ao:=QqD f.slots s;obtain⟨j,an⟩:∃j:Nat,Qh f.slots s=j:=⟨(Qh f.slots s).toNat,by omega⟩;have ae:=Qt8 ai;rw[an]at ae ao ⊢;have e1:(j:Int).toNat=j:=by omega
 rw[e1]at ae ⊢;obtain⟨a,ac⟩:∃a,l[j]? = some a:=⟨_,La (by omega)⟩;refine⟨a,ac,?_⟩;have ag:Qej f=true:=QlI ah 3 (by omega);unfold Qej at ag;rw[Lm]at ag;have aa:QaC (f.shapes.getD j 0) (f.slots.getD j 0)=true:=Li.1 ag.2 j (LU.2 (by omega));rw[ae]at aa;have au:1<=f.shapes.getD j 0∧f.shapes.getD j 0<=6:=by
  unfold QaC at aa;rw[Le (by omega),Le (by omega),Lc (by omega)]at aa;simpa using aa
 have q:=ak j (by omega);unfold QfR at q;rw[Lm]at q;have am:l.getD j WN=a:=by simp[ac]
 rw[am]at q;have ad:a.k=1∧(1<=a.r.c∧a.r.c<=7):=by
  have e:(XI (Qy op l) a).a=a:=by unfold XI;split<;>rfl
  obtain⟨n,ap⟩:∃n:Nat,(f.shapes.getD j 0).toNat=n:=⟨_,rfl⟩;have q:=q.2;rw[ap]at q;have:n=1∨n=2∨n=3∨n=4∨n=5∨n=6:=by omega
  rcases this with rfl | rfl | rfl | rfl | rfl | rfl
  all_goals
   simp only[Zq,Ys,e,Nw,Lm,L0]at q;omega
 have ab:=QqO (QnQ aj).1 a (Ln ac);unfold QJ at ab;rw[Lc (by simp[ad.1])]at ab;refine⟨ad.1,ad.2,?_⟩;cases aq:Wv a.r with
 | true=>rfl
 | false=>rw[aq]at ab;simp at ab
def QDM {f:Fm}{op:Int}{l:List Ar}(h:Qe3 f op l=true){s:Int}(ae:s=1∨s=3∨s=4∨s=7)(q:0<=Qh f.slots s):∃a,l[(Qh f.slots s).toNat]? = some a∧a.k=1∧(1<=a.r.c∧a.r.c<=7)∧0<=a.r.n∧a.r.n<16:=by
 obtain⟨a,aa,ab,ac,ad⟩:=QDL h ae q;exact⟨a,aa,ab,ac,Qwo ad⟩
def QHh {f:Fm}{op:Int}{l:List Ar}(h:Qe3 f op l=true)(ai:f.vex=true){a b:Int}(ac:0<=a∧a<2)(ad:0<=b∧b<2):(vxF f l a b).Ok:=by
 obtain⟨_,aj,ab,ak,am⟩:=Vp h;have q:=QlJ ab;obtain⟨ao,ah,aq,an⟩:=q.vx ai;have ap:=q.map;refine⟨QhO _ _ _,ac,?_,?_,?_,?_,?_,ah⟩
 ·show 0<=hB f l b∧hB f l b<2;unfold hB;split;·exact QhO _ _ _
  exact ad
 ·show 1<=f.map∧f.map<4;omega
 ·show 0<=QqE f.w∧QqE f.w<2;unfold QqE;split<;>omega
 ·show 0<=QlG f l 3∧QlG f l 3<16;unfold QlG;split;·rename_i aa;obtain⟨c,ae,_,_,ag⟩:=QDM h (.inr (.inl rfl)) aa;rw[ae];exact ag
  omega
 show 0<=f.l∧f.l<2;omega
def QsH (d:Int):(ZE d 4).1.length<=8:=Qho _ _ (by decide)
def QDN (w:Ld):Prop:=(0<=w.x∧w.x<2)∧(0<=w.h∧w.h<2)∧w.b.length<=100
def z02:(0:Int)<=0∧(0:Int)<2:=by decide
def Qwp (mid:Int)(q:Rg)(f d:Int):QDN (GP mid q f d):=by
 have:=QsH d;refine⟨QlB _,z02,?_⟩;unfold GP;simp only[Lh,Lo,L9];omega
def QmT (mid rm:Int)(sib:List Int)(aa:sib.length<=8)(m:Mm):∀w∈Xr mid rm sib m,QDN w:=by
 intro w q;unfold Xr at q;obtain⟨md,_,h⟩:=NF.1 q;unfold Zh at h;split at h;·have:=Qwc md m;rw[Sa]at h;subst h;refine⟨QlB _,QlB _,?_⟩;simp only[Lh,Lo,L9];omega
 cases h
def QGh (mid:Int)(m:Mm):∀w∈Y3 mid m,QDN w:=by
 intro w q;unfold Y3 at q;split at q;·rw[Sa]at q;subst q;have:=QsH m.d;refine⟨z02,z02,?_⟩;simp only[Lh,Lo,L9];omega
 split at q;·rw[Sa]at q;subst q;exact Qwp _ _ _ _
 split at q;·exact QmT _ _ _ (by simp) _ w q
 rcases LI.1 q with q | q
 ·split at q;·cases q
  exact QmT _ _ _ (by simp) _ w q
 rcases LI.1 q with q | q;·exact QmT _ _ _ (by simp) _ w q
 split at q;·cases q
 rw[Sa]at q;subst q;exact Qwp _ _ _ _
def QGi (mid:Int)(a:Ar):(Qec mid a).1.length<=8∧∀w∈(Qec mid a).1,QDN w:=by
 unfold Qec;split;·simp
 split;·simp
 split;·refine⟨by simp,λw q=>?_⟩;rw[Sa]at q;subst q;exact⟨z02,QlB _,by simp⟩
 split;·exact⟨Qwe _ _,QGh _ _⟩
 simp
def QhQ (f:Fm)(l:List Ar):(WT f l).length<=8∧∀w∈WT f l,QDN w:=by
 unfold WT;split;·refine⟨by simp,λw q=>?_⟩;rw[Sa]at q;subst q;exact⟨z02,z02,by simp⟩
 split;·exact QGi _ _
 simp
def QbX {α β:Type}{f:α->List β}{n:Nat}:∀ (l:List α),(∀a∈l,(f a).length<=n)->(l.flatMap f).length<=l.length * n
 | [],_=>by simp
 | a::l,h=>by
  have aa:=h a (Ny ..);have ab:=QbX l λb q=>h b (NA _ q);rw[Ba,Lh,Lo,Ry];omega
def Qhx (f:Fm)(op:Int)(l:List Ar):List Ld:=if Qe3 f op l=true then(WT f l).flatMap (Qel f l (Jp f op l)) else[]
def Qt9 (f:Fm)(op:Int)(l:List Ar):(Qhx f op l).length<=24:=by
 unfold Qhx;split
 ·have q:=(QhQ f l).1;have aa:=QbX (f:=Qel f l (Jp f op l)) (n:=3) (WT f l) λw _=>by unfold Qel;rw[Nn];exact(QsF _ _ _ _).1
  omega
 simp
def QDO (f:Fm)(op:Int)(l:List Ar):(Jp f op l).length<=2000:=by
 unfold Jp;have:=QzE (Qyj f op l) (tlN f);rw[Lh];split<;>split<;>simp<;>omega
def Qua {x:Lf}{op:Int}{va:Value}{l:List Ar}(H:Qa)(hx:x.At H)(az:x.Fr 0)(ak:Wg H va l)(aF:∀n,H.y<=n->Qp n 6 (.agg #[.Z op,va])=true)(am:l.length<=1000)(ay:∀a∈l,I64 a.n):
  Qe Pg 50 [.agg x.cells.toArray,.agg #[.Z op,va]] H λu H'=>∃v,u=.tuple #[v,.bool (decide (0<(Qhx x.f op l).length))]∧LsU 40 H H' v (Qhx x.f op l) H'.y∧Ext H H':=by
 refine Qrc λac=>?_;have aK:(Value.agg x.cells.toArray).cells.toList=x.cells:=rfl;have aq:x.cells.take 10=x.cells:=rfl;have aI:10<=x.cells.length:=Lb _;obtain⟨W,aa⟩:∃W,W=Qhx x.f op l:=⟨_,rfl⟩;have bq:W.length<=24:=by rw[aa];exact Qt9 _ _ _
 rw[<- aa];unfold Qhx at aa;obtain⟨a0,cap,rfl⟩:=Xt ak;simp only[Qij,aK,QbZ,simprocAttr];generalize ae:Qa.push H (.C x.cells 57)=H1;have g1:H1.get H.y=some (.C x.cells 57):=by rw[<- ae,Qc,Lc rfl]
 have bd:Ext H H1:=by rw[<- ae];exact(Ext.refl H).push _
 have aB:H1.y=H.y+1:=by rw[<- ae];rfl
 have aZ:H1.Wf:=by rw[<- ae];exact ac.push _
 clear ae;simp only[Qb,simprocAttr,aB];generalize ad:Qa.push H1 _=H2;have ao:Ext H H2:=by rw[<- ad];exact(bd.push _)
 have bA:H2.Wf:=by rw[<- ad];exact(aZ.push _)
 have aL:H2.get H.y=some (.C x.cells 57):=by rw[<- ad,Qc,Le (by omega)];exact g1
 have ar:H2.get (H.y+1)=some (.C [.Z op,.slice a0 l.length cap] 26):=by rw[<- ad,Qc,Lc (by omega)]
 have bu:H2.y=H.y+2:=by rw[<- ad,Qf,aB]
 clear ad;simp only[Qb,simprocAttr,g1,ar,aq];refine⟨aI,?_⟩;refine(Qt6 H2 (hx.ext ac ao) az (ak.ext ac ao) am ay).w ?_;rintro _ H3 bw ba ⟨rfl,ap⟩;have ah:=ao.trans ap;cases ag:Qe3 x.f op l with
 | false=>
  rw[ag,Le (by decide)]at aa;subst aa;simp only[Qb,simprocAttr,Qgx];exact .mk ah.y ⟨_,rfl,LsU.nil _ _ _ _,ah⟩
 | true=>
  rw[ag,Lc rfl]at aa;have aM:H3.get H.y=some (.C x.cells 57):=by rw[ap.get _ (by omega)];exact aL
  have aN:H3.get (H.y+1)=some (.C [.Z op,.slice a0 l.length cap] 26):=by rw[ap.get _ (by omega)];exact ar
  have bh:¬H.y=H3.y:=by omega
  have bi:¬H.y+1=H3.y:=by omega
  simp only[Qb,simprocAttr,bh,bi,aM,aN,aq];refine⟨aI,?_⟩;obtain⟨H4,eC,aX,bg,bB,bx,ax⟩:∃H4 eC,H4.get H3.y=some (.C [.slice none 0 0] eC)∧Ext H3 H4∧H4.Wf∧H4.y=H3.y+1∧H4=H3.push (.C [.slice none 0 0] _):=⟨_,_,by rw[Qc,Lc rfl],(Ext.refl H3).push _,ba.push _,rfl,rfl⟩;rw[<- ax];clear ax;refine(QrS H4).w ?_;rintro _ H5 b7 bc ⟨rfl,aG,bz,aP,aQ⟩;have ab:=(ah.trans bg).trans aG;have aO:H5.get H3.y=some (.C [.slice none 0 0] eC):=by rw[aG.get _ (by omega)];exact aX
  simp only[QbZ,simprocAttr,Qd,simprocAttr,Qez];rw[Qpo 92 [] [.P H4.y,.P (H4.y+1)]];intro L aV;refine⟨by kernel_rfl,?_⟩;have ai:Ext H5 (H5.push (L none)):=(Ext.refl H5).push _;have b9:(H5.push (L none)).y=H5.y+1:=rfl;have aS:(H5.push (L none)).get H5.y=some (L none):=by rw[Qc,Lc rfl]
  have bD:=bc.push (L none);generalize H5.push (L none)=Hb at *;have au:Hb.get H3.y=some (.C [.slice none 0 0] eC):=by rw[ai.get _ (by omega)];exact aO
  obtain⟨_,_,aD,_,_⟩:=Vp ag;have aT:∀w∈WT x.f l,(0<=w.x∧w.x<2)∧(0<=w.h∧w.h<2)∧(x.f.vex=true->(vxF x.f l w.x w.h).Ok)∧w.b.length<=1000:=λw ac=>by
   obtain⟨av,aw,bp⟩:=(QhQ x.f l).2 w ac;exact⟨av,aw,λaY=>QHh ag aY av aw,by omega⟩
  have aE:x.f.slots.length=l.length:=by rw[<- QoQ aD];exact(Vp ag).2.1
  have aC:=QIX (Hb:=Hb) (c:=H3.y) (m:=H5.y) (eC:=eC) (op:=op) (va:=.slice a0 l.length cap) (e:=Jp x.f op l) (Hz:=H) (by omega) (by omega) (by omega) (by rw[<- aa];omega) aV (by simp only[Qd,simprocAttr]) (QlJ aD) hx ak ac aF am aE (QDO _ _ _) aT;rw[<- aa]at aC;have an:∀id,id≠H3.y->id≠H5.y->¬clO H3.y H5.y eC Hb id:=λid p q h=>by
   rcases h with h | h | ⟨v,h,o,n,c,h'⟩;·exact p h
   ·exact q h
   rw[au]at h;cases h;cases h'
  refine(QGg aC (Lb _) hx az ak ac aF am ay aE (by have:=(QhQ x.f l).1;omega) (ab.trans ai) (λid aA=>an id (by have:=ah.y;omega) (by have:=ab.y;omega)) (by rw[ai.get _ (by omega)];exact aP) (by rw[ai.get _ (by omega)];exact aQ) (an _ (by omega) (by omega)) (an _ (by omega) (by omega)) ?_).w ?_;·refine⟨aS,by omega,by omega,λ_ _ _ _=>rfl,_,au,?_,λid ⟨o,n,c,h⟩=>by cases h⟩;exact LsU.nil _ _ _ _
  rintro u H6 b8 bC ⟨aU,br⟩;obtain⟨bj,bE,bF,bm,aJ,bn,aj,bG⟩:=aU;refine⟨none,bj,?_⟩;have aW:Qwm (Qel x.f l (Jp x.f op l)) (WT x.f l) (WT x.f l).length=W.length:=by unfold Qwm;rw[Nr,aa]
  rw[aW,Nr]at aj;have aH:Ext H (H6.kill H5.y):=⟨by have:=ab.y;show H.y<=H6.y;omega,λid aA=>by rw[WE,Le (by have:=ab.y;omega),bm id (by have:=ab.y;omega) (by have:=ah.y;omega) (by have:=ab.y;omega)];exact(ab.trans ai).get id aA⟩;have aR:(H6.kill H5.y).get H3.y=some (.C [aJ] eC):=by rw[WE,Le (by omega)];exact bn
  have aj:LsU 40 H (H6.kill H5.y) aJ W (H6.kill H5.y).y:=aj.down (H0:=H) (by have:=ab.y;omega);generalize H6.kill H5.y=H7 at *;obtain⟨a7,bo,rfl⟩:=aj.ls.slc;simp only[Qb,simprocAttr,Qmb,aR,Qgx];refine .mk aH.y ⟨_,?_,aj,aH⟩;rw[show decide ((0:Int)<(W.length:Int))=decide (0<W.length) by simp]
def JZ (op:Int):List Ar->Bool
 | [x,y]=>(op==11)&&(((x.k==1)&&(y.k==1))&&(x.r.c==y.r.c))&&!(x.r.n==y.r.n)
 | _=>false
def GT (op:Int)(l:List Ar):List (List Ar):=
 if((QU op l).2.2==0)=true then[(QU op l).2.1]++(if JZ op (QU op l).2.1=true then[(QU op l).2.1.reverse] else[]) else[]
def Qwt (op:Int)(q:List Value):List Value:=q.flatMap λs=>[.Z op,s]
def QGq (H:Qa)(v:Value)(op:Int)(ws:List (List Ar)):Prop:=∃q:List Value,q.length=ws.length∧VM H v ws.length (Qwt op q)∧∀ (j:Nat) s w,q[j]? = some s->ws[j]? = some w->Wg H s w∧∀n,H.y<=n->Qp n 6 (.agg #[.Z op,s])=true
def QBt {op:Int}{l:List Ar}(h:(QU op l).2.2=0):QU op l=(op,(QU op l).2.1,0):=by
 unfold QU at h ⊢;split;·rename_i q;rw[Lc q]at h;simp only at h;rw[h]at q;exact absurd q (by decide)
 rename_i q;rw[Le q]at h;split;·rename_i aa;rw[Lc aa]at h;simp only at h;rw[h]at aa;exact absurd aa (by decide)
 rfl
def Qwu {H H':Qa}{op:Int}{v:Value}{l:List Ar}(q:Wg H' v l)(aa:∀a n c,v=.slice (some a) n c->H.y<=a.block∧a.block<H'.y)(n:Nat)(ac:H'.y<=n):Qp n 6 (.agg #[.Z op,v])=true:=by
 obtain⟨a,cap,rfl,ab⟩:=q;cases a with
 | none=>simp[Qp,Ab.plain]
 | some a=>
  have:=(aa _ _ _ rfl).2;simp[Qp,Ab.plain];omega
def QsJ (ib:Int×Bool):∀l:List Ar,(QS ib l).1.length<=l.length
 | []=>Lb _
 | a::l=>by
  unfold QS;split;·simpa using QsJ ib l
  simp
def QBu (op:Int)(l:List Ar):(Q6 op l).length<=l.length+1:=by
 unfold Q6;split;·split<;>simp
 split;·simp
 split<;>simp
def Qwv (op:Int)(l:List Ar):(QU op l).2.1.length<=5:=by
 unfold QU;split;·simp
 rename_i h;split;·simp
 have:=QeR (op:=op) (l:=l) (by simpa using h);have:=QsJ (Qy op l) l;have:=QBu op (QS (Qy op l) l).1;simp only;omega
def QLf {op:Int}{m:List Ar}{W:List (List Ar)}{H H3:Qa}{B:Nat}{a2:Option Addr}{aa:Nat}(aJ:m.length<=1000)(aB:W=[m]++if JZ op m=true then[m.reverse] else[])(aO:Ext H H3)(ai:H3.Wf)(g3:H3.get B=some (.C [.Z op,.slice a2 m.length aa] 26))(aw:Wg H3 (.slice a2 m.length aa) m)(aH:∀n,H3.y<=n->Qp n 6 (.agg #[.Z op,.slice a2 m.length aa])=true){A:Env}(r3:A 3=.P B):
  Qm Pg JT ⟨Rt Pg Tryz.f49 H λu H'=>QGq H' u op W∧Ext H H',X4⟩ (Rt Pg Tryz.f49 H λu H'=>QGq H' u op W∧Ext H H') A H3:=by
 have lB:=ai.lt g3;have nB:¬B=H3.y:=by omega
 simp only[JT,Qb,simprocAttr,r3,g3,nB];generalize ag:H3.push _=H4;have aP:Ext H3 H4:=by rw[<- ag];exact(Ext.refl _).push _
 have b7:H4.Wf:=by rw[<- ag];exact ai.push _
 have g4:H4.get H3.y=some (.C [.Z op,.slice a2 m.length aa] 26):=by rw[<- ag,Qc,Lc rfl]
 have bq:H4.y=H3.y+1:=by rw[<- ag];rfl
 clear ag;refine⟨rfl,?_⟩;refine(Qzg _ m H4 (aw.ext ai aP) aJ).w ?_;rintro u H5 br aq ⟨aA,aI⟩;obtain⟨ab,cap,q,rfl,ap,bo⟩:∃ab cap q,u=.slice ab m.length cap∧(0<m.length->ab=some ⟨q,0,none⟩∧H4.y<=q∧H5.get q=some (.C (Ql m) 50))∧(∀a,ab=some a->H4.y<=a.block∧a.block<H5.y):=by
  rcases aI with⟨rfl,rfl | ⟨rfl,rfl⟩⟩ | ⟨bz,rfl,rfl⟩;·exact⟨none,0,0,rfl,λh=>absurd h (NX 0),λa h=>by cases h⟩
  ·exact⟨_,0,0,rfl,λh=>absurd h (NX 0),λa h=>by cases h;exact⟨Lb _,by rw[Qf];exact Rq _⟩⟩
  refine⟨_,_,H4.y+1,rfl,λ_=>⟨rfl,by omega,by rw[Qc,Lc (by simp only[Qf])]⟩,λa h=>by cases h;simp only[Qf];omega⟩
 clear aI;simp only[Qb,simprocAttr];refine⟨aA.eqB,?_⟩;generalize ah:H5.push _=H6;have ar:Ext H5 H6:=by rw[<- ah];exact(Ext.refl _).push _
 have b8:H6.Wf:=by rw[<- ah];exact aq.push _
 have bu:H6.y=H5.y+1:=by rw[<- ah];rfl
 have ak:H6.get H5.y=some (.C [.Z op,.slice ab m.length cap] 66):=by rw[<- ah,Qc,Lc rfl]
 clear ah;have aj:=(aP.trans aA).trans ar;have ae:=aO.trans aj;have aD:H6.get H3.y=some (.C [.Z op,.slice a2 m.length aa] 26):=by rw[ar.get _ (by omega),aA.get _ (by omega)];exact g4
 have aW:=aw.ext ai aj;have aY:Wg H6 (.slice ab m.length cap) m:=⟨ab,cap,rfl,λh=>⟨q,_,_,(ap h).1,by rw[ar.get _ (aq.lt (ap h).2.2)];exact(ap h).2.2⟩⟩
 -- one spelling
 have ax:JZ op m=false->QGq H6 (.S H3.y 1 1) op W:=λh=>by
  rw[aB,Le (by rw[h];decide),Na];refine⟨[.slice a2 m.length aa],rfl,⟨_,1,rfl,λ_=>⟨H3.y,_,_,rfl,aD⟩⟩,λj s w ad am=>?_⟩;rcases j with _ | j;·cases ad;cases am;exact⟨aW,λn aK=>aH n (by have:=aj.y;omega)⟩
  simp at ad
 cases aG:op==11 with
 | false=>
  simp only[Qb,simprocAttr,XX];refine .mk ae.y ⟨ax ?_,ae⟩;unfold JZ;split<;>simp[aG]
 | true=>
  simp only[Qb,simprocAttr];refine(QbQ H5.y op _ m H6 false ak aY aJ).w ?_;rintro _ H6 _ _ ⟨rfl,rfl⟩;cases ac:JX m with
  | false=>
   simp only[Qb,simprocAttr,XX];refine .mk ae.y ⟨ax ?_,ae⟩;unfold JZ;unfold JX at ac;split;·simp only at ac;rw[ac];simp
   rfl
  | true=>
   obtain⟨x,y,rfl⟩:∃x y,m=[x,y]:=by
    unfold JX at ac;split at ac;·exact⟨_,_,rfl⟩
    cases ac
   obtain⟨rfl,bp,ay⟩:=ap (FH _);have aC:H6.get q=some (.C (Ql [x,y]) 50):=by rw[ar.get _ (aq.lt ay)];exact ay
   have e2:(Ql [x,y])[2]? = some (.Z x.r.n):=rfl;have aR:(Ql [x,y])[13]? = some (.Z y.r.n):=rfl;have d0:(0:Int)<=0∧(0:Int)<(([x,y]:List Ar).length:Int):=by simp
   have d1:(0:Int)<=1∧(1:Int)<(([x,y]:List Ar).length:Int):=by simp
   simp only[sxA,sxB,Nat.reduceBEq,Nat.reduceEqDiff,reduceCtorEq,mxA,mxB,Nat.reduceAdd,reduceIte,Nat.reduceLeDiff,splice,ak,aC];refine⟨d0,_,e2,d1,_,aR,?_⟩;simp only[Qb,simprocAttr];have aX:((x.k==1)&&(y.k==1)&&(x.r.c==y.r.c))=true:=ac;cases aL:x.r.n==y.r.n with
   | true=>
    simp only[Qb,simprocAttr,XX];exact .mk ae.y ⟨ax (by simp[JZ,aL]),ae⟩
   | false=>
    have bg:JZ op [x,y]=true:=by simp only[JZ,aG,aX,aL];rfl
    simp only[Qb,simprocAttr];simp only[Qae,Qb,simprocAttr];refine(GN H5.y q cap op x y H6 false 50 ak aC).w ?_;rintro _ H7 bw aM ⟨rfl,an⟩;have av:∀id,id≠q->H7.get id=H6.get id:=λid h=>by rw[an,Qj,Le h,Qj,Le h]
    have aS:H7.get q=some (.C (Ql [y,x]) 50):=by rw[an,Qj,Lc rfl]
    have bx:H7.y=H6.y:=by rw[an];rfl
    clear an;have b9:=aq.lt ay;have aT:H7.get H5.y=some (.C [.Z op,.S q 2 cap] 66):=by rw[av _ (by omega)];exact ak
    have aE:H7.get H3.y=some (.C [.Z op,.slice a2 2 aa] 26):=by rw[av _ (by omega)];exact aD
    simp only[Qb,simprocAttr,aT];have bj:Ext H3 H7:=⟨by have:=aj.y;omega,λid ba=>by rw[av id (by omega)];exact aj.get id ba⟩;generalize ao:H7.push _=H8;have au:Ext H7 H8:=by rw[<- ao];exact(Ext.refl _).push _
    have bh:H8.Wf:=by rw[<- ao];exact aM.push _
    have aU:H8.get H7.y=some (.C [.Z op,.S q 2 cap] 26):=by rw[<- ao,Qc,Lc rfl]
    clear ao;have bm:=aM.lt aE;have aV:H8.get H3.y=some (.C [.Z op,.slice a2 2 aa] 26):=by rw[au.get _ bm];exact aE
    have bc:Gx 2 26 H3 H8 (.S H3.y 1 1) 1 [.Z op,.slice a2 2 aa]:=.inr ⟨_,_,rfl,Lb _,aV,rfl,.inl rfl⟩;have bd:Zx 2 (.S H7.y 1 1) H8=some (1,[.Z op,.S q 2 cap]):=by
     rw[Gg aU (by decide) (by simp)];rfl
    refine QCu bc ⟨_,rfl⟩ bh bd rfl (by decide) rfl (by decide) (by decide) (by decide) ?_;rintro bA H9 aZ aQ bi ⟨bn,rfl⟩;have az:=(bj.trans au).trans aQ;have aN:=aO.trans az;have aF:H9.get q=some (.C (Ql [y,x]) 50):=by rw[aQ.get _ (by have:=au.y;omega),au.get _ (by omega)];exact aS
    simp only[Qb,simprocAttr,XX];refine .mk aN.y ⟨?_,aN⟩;rw[aB,Lc bg];refine⟨[.slice a2 2 aa,.S q 2 cap],rfl,aZ.sl,λj s w ad am=>?_⟩;rcases j with _ | _ | j;·cases ad;cases am;exact⟨aw.ext ai az,λn aK=>aH n (by have:=az.y;omega)⟩
    ·cases ad;cases am;refine⟨⟨_,cap,rfl,λ_=>⟨q,_,_,rfl,aF⟩⟩,λn aK=>?_⟩;have:=bi.lt aF;simp[Qp,Ab.plain];omega
    simp at ad
def QmU {op:Int}{v:Value}{l:List Ar}(H:Qa)(ak:Wg H v l)(au:l.length<=1000)(aq:∀a∈l,I64 a.n):
  Qe Pg 49 [.agg #[.Z op,v]] H λu H'=>QGq H' u op (GT op l)∧Ext H H':=by
 refine Qkn λam=>?_;obtain⟨a0,cap,rfl⟩:=Xt ak;simp only[Qcg,QbZ,simprocAttr];generalize ac:Qa.push H _=H1;have g1:H1.get H.y=some (.C [.Z op,.slice a0 l.length cap] 26):=by rw[<- ac,Qc,Lc rfl];rfl
 have ao:Ext H H1:=by rw[<- ac];exact(Ext.refl H).push _
 have az:H1.Wf:=by rw[<- ac];exact am.push _
 clear ac;simp only[Qb,simprocAttr,g1];refine(QeT op l H1 _ (ak.ext am ao) au aq).w ?_;rintro _ H2 ay an ⟨ax,aA,rfl,ae,ar⟩;have ag:=ao.trans ax;have ai:=λn aj=>Qwu (op:=(QU op l).1) ae ar n aj;obtain⟨W,q⟩:∃W,W=GT op l:=⟨_,rfl⟩;rw[<- q];unfold GT at q;obtain⟨a2,ah,rfl⟩:=Xt ae;cases ab:(QU op l).2.2==0 with
 | false=>
  rw[ab,Le (by decide)]at q;simp only[Qb,simprocAttr,ab,XX];have aa:=(ag.push (.C [.Z 0,.slice none 0 0] 26)).set ag.y (.C [.Z (QU op l).1,.slice a2 (QU op l).2.1.length ah] 26);exact .mk aa.y ⟨by rw[q];exact⟨[],rfl,⟨none,0,rfl,λh=>absurd h (NX 0)⟩,λj s w h=>by simp at h⟩,aa⟩
 | true=>
  rw[ab,Lc rfl]at q;have ap:=QBt (L0.1 ab);have e1:(QU op l).1=op:=by rw[ap]
  rw[e1]at ai;simp only[Qb,simprocAttr,ab,e1];generalize av:(QU op l).2.1=m at *;generalize ad:(H2.push _).set H2.y _=H3;have aa:Ext H2 H3:=by rw[<- ad];exact((Ext.refl H2).push _).set (Lb _) _
  have aw:H3.Wf:=by rw[<- ad];exact(an.push _).set (b0:=.C [.Z 0,.slice none 0 0] 26) (by rw[Qc,Lc rfl]) _
  have g3:H3.get H2.y=some (.C [.Z op,.slice a2 m.length ah] 26):=by rw[<- ad,Qj,Lc rfl]
  clear ad;refine QLf (by rw[<- av];have:=Qwv op l;omega) q (ag.trans aa) aw g3 (ae.ext an aa) (λn aj=>ai n (by have:=aa.y;omega)) ?_;simp only[Qd,simprocAttr]
structure GX (v:Value) (H:Qa) (v':Value) (H':Qa):Prop where
 y:H.y<=H'.y
 keep:∀id,id<H.y->¬inB v id->H'.get id=H.get id
 own:∀id,inB v' id->inB v id∨H.y<=id
def QGu {v:Value}{a b:Nat}(q:inB v a)(aa:inB v b):a=b:=by
 obtain⟨_,_,_,rfl⟩:=q;obtain⟨_,_,_,h⟩:=aa;cases h;rfl
def GX.refl (v:Value)(H:Qa):GX v H v H:=⟨Lb _,λ_ _ _=>rfl,λ_ h=>.inl h⟩
def GX.trans {v q aa:Value}{H H' H'':Qa}(h:GX v H q H')(h':GX q H' aa H''):GX v H aa H'':=by
 have ab:=h.y;have ac:=h'.y;refine⟨by omega,λid a b=>?_,λid a=>?_⟩;·rw[h'.keep id (by omega) (λc=>by rcases h.own id c with d | d;exact b d;omega),h.keep id a b]
 rcases h'.own id a with b | b;·exact h.own id b
 exact .inr (by omega)
def GX.ext {v:Value}{H H':Qa}(h:Ext H H'):GX v H v H':=⟨h.y,λid a _=>h.get id a,λ_ h=>.inl h⟩
def GX.gk {v q:Value}{H0 H H':Qa}(h:GK v q H0 H H'):GX v H q H':=⟨h.y,h.keep,h.new⟩
def GX.old {v ab:Value}{Hs H H':Qa}(h:GX v H ab H')(hx:Ext Hs H)(aa:∀id,inB v id->Hs.y<=id):Ext Hs H':=
 ⟨by have:=h.y;have:=hx.y;omega,λid q=>by rw[h.keep id (by have:=hx.y;omega) (λc=>by have:=aa id c;omega)];exact hx.get id q⟩
def Yb.own {e:TypeId}{H0 H:Qa}{v:Value}{ws:List Ld}(h:Yb e H0 H v ws):∀id,inB v id->H0.y<=id:=λid hi=>by
 obtain⟨ss,ab,aa,ac⟩:=h.it;obtain⟨o,n,c,rfl⟩:=hi;rcases aa with⟨h,_,_⟩ | ⟨b,c',h,q,_⟩;·cases h
 cases h;exact q
def Yb.gx {e:TypeId}{H0 H H':Qa}{v ac u:Value}{ws:List Ld}(h:Yb e H0 H u ws)(ab:H.Wf)(q:GX v H ac H')(aa:∀id,inB v id->id<H0.y):Yb e H0 H' u ws:=
 h.keep2 ab λid a b=>q.keep id b λc=>by have:=aa id c;omega
def RgS (A A':Env):Prop:=A' 1=A 1∧A' 7=A 7∧A' 8=A 8∧A' 9=A 9∧A' 15=A 15∧A' 16=A 16∧A' 17=A 17∧A' 21=A 21∧A' 22=A 22∧A' 23=A 23
def QmV (k:Int)(w:Ld):Ld:=⟨w.b,k,w.h⟩
section
variable {R:Env->Qa->Prop} {E:Nat->Env->Qa->Prop} {K:Env->Qa->Prop}
def QLh {Hs H Hc:Qa}{aa cs:List Ld}{v az:Value}{k:Int}{A:Env}(bH:aa.length+cs.length<=1000000)(bx:Ext Hs H)(au:H.Wf){U0:Nat}(aM:LsU 40 Hs H v aa Hc.y)(aJ:LsU 40 Hc H az cs U0)(bc:Hs.y<=Hc.y)(aZ:Hc.y<=H.y)(ba:∀id,inB v id->id<Hc.y)(ax:A 5=v)(r8:A 8=.Z k)(bD:A 10=az)
  (bn:∀A' H' am,A' 5=am->RgS A A'->H'.Wf->LsU 40 Hs H' am (aa++cs.map (QmV k)) H'.y->GX v H am H'->K A' H'):
  Qm Pg VW ⟨R,E⟩ K A H:=by
 obtain⟨ay,aR,rfl⟩:=aJ.ls.slc;obtain⟨ss,bq,bi,aK,bj⟩:=aJ.it;simp only[VW,Qb,simprocAttr,bD];refine Qu (λm A' H'=>∃i:Nat,i<=cs.length∧m=cs.length - i∧H'.Wf∧(∃U,U<=H'.y∧LsU 40 Hs H' (A' 5) (aa++(cs.take i).map (QmV k)) U∧∀ (j:Nat) s a,i<=j->ss[j]? = some s->inB s a->U<=a)∧GX v H (A' 5) H'∧A' 36=.slice ay cs.length aR∧A' 37=.Z cs.length∧A' 38=.Z i∧RgS A A') cs.length ?_ ?_
 ·refine⟨0,L7 _,by omega,au,?_,?_,?_,?_,?_,?_⟩;·simp only[Qd,simprocAttr,ax,Rb,Bq,Na];refine⟨Hc.y,aZ,aM,λj s a _ aj q=>?_⟩;obtain⟨w,ac⟩:∃w,cs[j]? = some w:=⟨_,La (by have:=(Lk.1 aj).1;omega)⟩;exact((aK j s w aj ac).low au q).1
  ·simp only[Qd,simprocAttr,ax];exact GX.refl _ _
  ·simp only[Qd,simprocAttr]
  ·simp only[Qd,simprocAttr]
  ·simp only[uxA,uxB,Nat.reduceBEq];rfl
  simp only[RgS,Qd,simprocAttr,RU]
 rintro m A' H' ⟨i,hi,rfl,ac,⟨U,aI,aq,aN⟩,ai,aP,aQ,aw,aU⟩;simp only[Qfe,Qb,simprocAttr,aQ,aw];obtain⟨e1,aG,an,aH,aA,aB,aC,aD,aE,aF⟩:=id aU;refine Qg (λab=>?_) (λab=>?_)
 ·have ab:i<cs.length:=by have:=Lg ab;omega
  have aL:∀ {size e v n cs},Gx size e Hc H v n cs->Gx size e Hc H' v n cs:=λg=>g.keep2 au λid a b=>ai.keep id b λc=>by have:=ba id c;omega
  have bz:=ai.old bx (ax▸aM.ls.own);have bh:=aL bi;have bg:=λj s w a b=>aL (aK j s w a b);obtain⟨b,bG,rfl,bd⟩:∃b,Hc.y<=b∧ay=some ⟨b,0,none⟩∧H'.get b=some (.C (ldC ss cs) 40):=by
   rcases bh with⟨h,h',_⟩ | ⟨b,c,h,bB,bC,_⟩;·omega
   cases h;exact⟨b,bB,rfl,bC⟩
  obtain⟨sv,ak⟩:∃sv,ss[i]? = some sv:=⟨_,La (by omega)⟩;obtain⟨w,av⟩:∃w,cs[i]? = some w:=⟨_,La ab⟩;have ar:=bg i sv w ak av;have aY:=Qt7 ss cs i sv w ak av;have bI:(ldC ss cs).length=cs.length * 3:=by rw[QtW _ _ bq]
  have d1:(0:Int)<=i∧(i:Int)<cs.length:=by omega
  have d3:(i:Int).toNat=i:=by omega
  have aS:IntKind.i64.wrap ((i:Int)+1)=((i+1:Nat):Int):=by rw[w64 (by unfold I64;omega)];omega
  obtain⟨ad,ae,rfl⟩:=ar.slc;simp only[Qfd,Qb,simprocAttr,aP,aw,d1,d3,bd,aY,an,r8];refine⟨by omega,?_⟩;generalize ah:Qa.push (Qa.set (Qa.set (Qa.push H' _) _ _) _ _) _=H5;have ag:Ext H' H5:=by rw[<- ah];exact((((Ext.refl H').push _).set (Lb _) _).set (Lb _) _).push _
  have bw:H5.Wf:=by rw[<- ah];exact(((ac.push _).set (b0:=.C [.slice none 0 0,.Z 0,.Z 0] 40) (by rw[Qc,Lc rfl]) _).set (b0:=.C [.slice ad w.b.length ae,.Z w.x,.Z w.h] 40) (by rw[Qj,Lc rfl]) _).push _
  have aT:H5.get (H'.y+1)=some (.C [.slice ad w.b.length ae,.Z k,.Z w.h] 40):=by rw[<- ah,Qc,Lc (by simp only[QR,Qf])]
  clear ah;have br:Zx 3 (.S (H'.y+1) 1 1) H5=some (1,[.slice ad w.b.length ae,.Z (QmV k w).x,.Z (QmV k w).h]):=by
   rw[Gg aT (by decide) (by simp)];rfl
  have bJ:(aa++(cs.take i).map (QmV k)).length<=1000000:=by rw[Lh,Nn,Sb];omega
  have bp:Gx 1 5 Hs H5 (.slice ad w.b.length ae) (QmV k w).b.length (bys (QmV k w).b):=(ar.go ac ag).down bc;obtain⟨U',aV,bF,aW,aX⟩:∃U',U<=U'∧U'<=H'.y∧(∀a,inB (.slice ad w.b.length ae) a->U<=a∧a<U')∧∀ (j:Nat) s a,i+1<=j->ss[j]? = some s->inB s a->U'<=a:=by
   by_cases aO:∃a,inB (.slice ad w.b.length ae) a
   ·obtain⟨a,q⟩:=aO;have bE:=aN i _ a (Lb _) ak q;refine⟨a+1,by omega,(ar.low ac q).2,λb ao=>?_,λj s b bm aj ao=>?_⟩;·rw[QGu ao q];omega
    obtain⟨b7,b8⟩:=Lk.1 ak;obtain⟨b9,bA⟩:=Lk.1 aj;exact BR.1 bj.1 i j b7 b9 (by omega) a b (b8▸q) (bA▸ao)
   exact⟨U,Lb _,aI,λa q=>absurd ⟨a,q⟩ aO,λj s a bm=>aN j s a (by omega)⟩
  refine Qzz (by decide) (aq.go ac ag) aV aW (bz.trans ag) bw bp br (by omega) (by omega) ?_;intro am H6 bo ap;simp only[Qb,simprocAttr,aw,aS];have bu:aa++(cs.take (i+1)).map (QmV k)=aa++(cs.take i).map (QmV k)++[QmV k w]:=by rw[Nv,av,N6,LQ];rfl
  refine⟨cs.length - (i+1),by omega,i+1,by omega,rfl,ap.w,?_,?_,?_,?_,?_,?_⟩;·simp only[Qd,simprocAttr];rw[bu];exact⟨U',by have:=ag.y;have:=ap.y;omega,bo,aX⟩
  ·simp only[Qd,simprocAttr];exact(ai.trans (GX.ext ag)).trans (GX.gk ap)
  ·simp only[Qd,simprocAttr,aP]
  ·simp only[Qd,simprocAttr,aQ]
  ·simp only[Qd,simprocAttr]
  simp only[RgS,Qd,simprocAttr,e1,aG,an,aH,aA,aB,aC,aD,aE,aF,RU]
 have ab:i=cs.length:=by have:=Ll ab;omega
 subst ab;rw[Nr]at aq;simp only[Qb,simprocAttr];refine bn _ _ _ rfl ?_ ac ?_ ?_;·simp only[RgS,Qd,simprocAttr,e1,aG,an,aH,aA,aB,aC,aD,aE,aF,RU]
 ·simp only[Qd,simprocAttr];exact aq.mono aI
 simp only[Qd,simprocAttr];exact ai
def frm (L:List Fm)(op:Int)(m:List Ar)(k:Nat):List Ld:=match L[k]? with | some f=>(Qhx f op m).map (QmV k) | none=>[]
def Qui (L:List Fm)(op:Int)(m:List Ar)(k:Nat):(frm L op m k).length<=24:=by
 unfold frm;split;·rw[Nn];exact Qt9 _ _ _
 simp
def Qhy (L:List Fm)(op:Int)(l:List Ar):List Ld:=(GT op l).flatMap λm=>(List.range L.length).flatMap (frm L op m)
def RgO (A A':Env):Prop:=A' 1=A 1∧A' 15=A 15∧A' 16=A 16∧A' 17=A 17
def QLi {Hs H:Qa}{aj:List Ld}{v aH sv:Value}{xs:List Lf}{op:Int}{m:List Ar}{B:Nat}{A:Env}(bC:aj.length<=500000)(bH:xs.length<=6000)(br:m.length<=1000)(aZ:∀a∈m,I64 a.n)(av:Hs.Wf)(bz:Ext Hs H)(aP:H.Wf)(aN:LsU 40 Hs H v aj H.y)(aI:Qk9 Hs aH xs)(bj:∀x∈xs,x.Fr 0)(bw:Wg Hs sv m)(bc:∀n,Hs.y<=n->Qp n 6 (.agg #[.Z op,sv])=true)
  (gB:H.get B=some (.C [.Z op,sv] 26)) (hB:¬inB v B) (aT:A 5=v) (ai:A 7=.P B) (ag:A 21=aH) (ah:A 22=.Z xs.length) (ab:A 23=.Z 0)
  (bo:∀A' H' ax,A' 5=ax->RgO A A'->H'.Wf->LsU 40 Hs H' ax (aj++(List.range xs.length).flatMap (frm (xs.map (·.f)) op m)) H'.y->GX v H ax H'->K A' H'):
  Qm Pg (.block 2 (.loop VX)) ⟨R,E⟩ K A H:=by
 obtain⟨aV,aW,rfl,bh⟩:=aI.1;have aJ:=aI.2;simp only[QbZ,simprocAttr];refine Qu (λq A' H'=>∃i:Nat,i<=xs.length∧q=xs.length - i∧H'.Wf∧LsU 40 Hs H' (A' 5) (aj++(List.range i).flatMap (frm (xs.map (·.f)) op m)) H'.y∧GX v H (A' 5) H'∧A' 7=.P B∧A' 21=.slice aV xs.length aW∧A' 22=.Z xs.length∧A' 23=.Z i∧RgO A A') xs.length ?_ ?_
 ·refine⟨0,L7 _,by omega,aP,?_,?_,ai,ag,ah,ab,?_⟩;·simp only[aT,List.range_zero,DG,Na];exact aN
  ·rw[aT];exact GX.refl _ _
  simp only[RgO,RU]
 rintro q A' H' ⟨i,hi,rfl,ad,au,ac,ai,ag,ah,ab,aY⟩;obtain⟨e1,ao,ap,aq⟩:=id aY;simp only[VX,Qb,simprocAttr,ah,ab];refine Qg (λaa=>?_) (λaa=>?_)
 ·have aa:i<xs.length:=by have:=Lg aa;omega
  have aS:=ac.old bz aN.ls.own;obtain⟨b,e,ro,rfl,aM⟩:=bh (by omega);have bn:H'.get b=some (.cells (WP xs) e ro):=by rw[aS.get _ (av.lt aM)];exact aM
  obtain⟨x,an⟩:∃x,xs[i]? = some x:=⟨_,La aa⟩;have ba:=QaT xs i x an;have bD:=XR xs;have d1:(0:Int)<=i∧(i:Int)<xs.length:=by omega
  have d3:(i:Int).toNat=i:=by omega
  have ay:IntKind.i64.wrap ((i:Int)+1)=((i+1:Nat):Int):=by rw[w64 (by unfold I64;omega)];omega
  have aL:H'.get B=some (.C [.Z op,sv] 26):=by rw[ac.keep B (aP.lt gB) hB];exact gB
  have aU:x.cells.take 10=x.cells:=rfl;have lB:=ad.lt aL;have nB:¬B=H'.y:=by omega
  have bg:x.cells++List.drop x.cells.length [.Z 0,.slice none 0 0,.slice none 0 0,.Z 0,.Z 0,.Z 0,.Z 0,.Z 0,.bool false,.Z 0]=x.cells:=Na _;simp only[Qff,Qb,simprocAttr,ai,ag,ab,d1,d3,bn,ba,aL,nB,bg,aU];refine⟨by omega,⟨rfl,Lb _,?_⟩,Lb _,?_⟩;·exact Y8 (aJ x (Ln an))
  generalize ar:Qa.set (Qa.push H' _) _ _=H1;have ak:Ext H' H1:=by rw[<- ar];exact((Ext.refl H').push _).set (Lb _) _
  have bG:H1.Wf:=by rw[<- ar];exact(ad.push _).set (b0:=.C [.Z 0,.slice none 0 0,.slice none 0 0,.Z 0,.Z 0,.Z 0,.Z 0,.Z 0,.bool false,.Z 0] 57) (by rw[Qc,Lc rfl]) _
  clear ar;have ae:=aS.trans ak;have aR:=Ln an;refine(Qua H1 ((aJ x aR).ext av ae) (bj x aR) (bw.ext av ae) (λn bE=>bc n (by have:=ae.y;omega)) br aZ).w ?_;rintro _ H2 bF aQ ⟨b8,rfl,bd,am⟩;have aw:=ak.trans am;have bi:(xs.map (·.f))[i]? = some x.f:=by rw[LD,an];rfl
  have aK:(List.range (i+1)).flatMap (frm (xs.map (·.f)) op m)=(List.range i).flatMap (frm (xs.map (·.f)) op m)++(Qhx x.f op m).map (QmV i):=by
   rw[R0,Bm];simp only[Ba,DG,Na,frm,bi]
  have aO:LsU 40 Hs H2 (A' 5) _ H1.y:=(au.go ad aw).mono ak.y;simp only[Qb,simprocAttr];cases b7:decide (0<(Qhx x.f op m).length) with
  | false=>
   have aX:Qhx x.f op m=[]:=N2.1 (by have:=Ll b7;omega);simp only[Qb,simprocAttr,ab,ay];refine⟨xs.length - (i+1),by omega,i+1,by omega,rfl,aQ,?_,?_,?_,?_,?_,?_,?_⟩;·simp only[Qd,simprocAttr];rw[aK,aX,Bq,Na];exact aO.mono am.y
   ·simp only[Qd,simprocAttr];exact ac.trans (GX.ext aw)
   ·simp only[Qd,simprocAttr,ai]
   ·simp only[Qd,simprocAttr,ag]
   ·simp only[Qd,simprocAttr,ah]
   ·simp only[Qd,simprocAttr]
   simp only[RgO,Qd,simprocAttr,e1,ao,ap,aq,RU]
  | true=>
   simp only[Qb,simprocAttr];have bq:∀id,inB (A' 5) id->id<H1.y:=λid h=>by
    obtain⟨ss,_,bu,_⟩:=au.it;have:=(bu.low ad h).2;have:=ak.y;omega
   refine QLh (Hs:=Hs) (v:=A' 5) (k:=(i:Int)) ?_ (ae.trans am) aQ aO bd ae.y am.y bq ?_ ?_ ?_ ?_;·have bB:=Qt9 x.f op m;have aa:=QbX (f:=frm (xs.map (·.f)) op m) (n:=24) (List.range i) λk _=>Qui _ _ _ _;rw[BO]at aa;rw[Lh];omega
   ·simp only[Qd,simprocAttr]
   ·simp only[Qd,simprocAttr]
   ·simp only[Qd,simprocAttr]
   rintro A2 H3 v3 rfl ⟨az,aG,b9,bA,aA,aB,aC,aD,aE,aF⟩ bx bp bm;simp only[Qd,simprocAttr]at az aG aA aB aC aD aE aF;simp only[Qb,simprocAttr,aF,ab,ay];refine⟨xs.length - (i+1),by omega,i+1,by omega,rfl,bx,?_,?_,?_,?_,?_,?_,?_⟩;·simp only[Qd,simprocAttr];rw[aK,<- LQ];exact bp
   ·simp only[Qd,simprocAttr];exact(ac.trans (GX.ext aw)).trans bm
   ·simp only[Qd,simprocAttr,aG,ai]
   ·simp only[Qd,simprocAttr,aD,ag]
   ·simp only[Qd,simprocAttr,aE,ah]
   ·simp only[Qd,simprocAttr]
   simp only[RgO,Qd,simprocAttr,az,aA,aB,aC,e1,ao,ap,aq,RU]
 have aa:i=xs.length:=by have:=Ll aa;omega
 subst aa;simp only[Qb,simprocAttr];refine bo _ _ _ rfl ?_ ad ?_ ?_;·simp only[RgO,Qd,simprocAttr,e1,ao,ap,aq,RU]
 ·simp only[Qd,simprocAttr];exact au
 simp only[Qd,simprocAttr];exact ac
end
def QzO (op:Int):∀ (q:List Value) (i:Nat) (s:Value),q[i]? = some s->((Qwt op q).drop (i * 2)).take 2=[.Z op,s]
 | [],_,_,h=>by simp at h
 | v::q,0,_,h=>by cases h;rfl
 | v::q,i+1,s,h=>by
  have e:Qwt op (v::q)=[.Z op,v]++Qwt op q:=rfl;rw[e,show(i+1) * 2=2+i * 2 by omega,<- Rc];exact QzO op q i s h
def QwA (op:Int):∀q:List Value,(Qwt op q).length=q.length * 2
 | []=>rfl
 | v::q=>by
  have e:Qwt op (v::q)=[.Z op,v]++Qwt op q:=rfl;rw[e,Lh,QwA op q,Lo,Lo,Lo,L9];omega
def Qyq {ib:Int×Bool}{a:Ar}(h:I64 a.n):I64 (Wi ib a).1.n:=by
 have q:I64 0:=by unfold I64;omega
 have aa:I64 (Wo a).1.n:=by
  unfold Wo WX;split
  ·split;·exact q
   split;·exact q
   exact h
  exact q
 unfold Wi;simp only;split;·exact h
 split;·exact Qqn _ _ _ aa
 exact aa
def QnR {ib:Int×Bool}:∀ {l:List Ar},(∀a∈l,I64 a.n)->∀a∈(QS ib l).1,I64 a.n
 | [],_,a,q=>by cases q
 | b::l,h,a,q=>by
  unfold QS at q;split at q
  ·rcases LK.1 q with rfl | q;·exact Qyq (h b (Ny ..))
   exact QnR (λc aa=>h c (NA _ aa)) a q
  cases q
def QBv {op:Int}{l:List Ar}(h:∀a∈l,I64 a.n):∀a∈Q6 op l,I64 a.n:=by
 have aa:∀a∈l.reverse,I64 a.n:=λa q=>h a (List.mem_reverse.1 q);unfold Q6;split
 ·split;·intro a q;refine h a ?_;simp only[LK,Ns,NN]at q ⊢;rcases q with h | h | h<;>simp[h]
  exact h
 split;·exact aa
 split;·exact aa
 exact h
def Qyr {op:Int}{l:List Ar}(h:∀a∈l,I64 a.n):∀a∈(QU op l).2.1,I64 a.n:=by
 unfold QU;split;·intro a q;cases q
 split;·intro a q;cases q
 exact QBv (QnR h)
def QBw {op:Int}{l:List Ar}(ac:∀a∈l,I64 a.n):(GT op l).length<=2∧∀m∈GT op l,m.length<=5∧∀a∈m,I64 a.n:=by
 have aa:=Qwv op l;have ab:=Qyr (op:=op) ac;unfold GT;split
 ·refine⟨by split<;>simp,λm q=>?_⟩;rcases LI.1 q with q | q;·rw[Sa]at q;subst q;exact⟨aa,ab⟩
  split at q;·rw[Sa]at q;subst q;exact⟨by rw[List.length_reverse];exact aa,λa ad=>ab a (List.mem_reverse.1 ad)⟩
  cases q
 simp
def Quj {op:Int}{va aw:Value}{l:List Ar}{xs:List Lf}(H:Qa)(ay:Wg H va l)(aR:l.length<=1000)(ax:∀a∈l,I64 a.n)(az:Qk9 H aw xs)(aO:∀x∈xs,x.Fr 0)(bj:xs.length<=6000):
  Qe Pg 30 [.agg #[.Z op,va],aw] H λv H'=>LsU 40 H H' v (Qhy (xs.map (·.f)) op l) H'.y∧Ext H H':=by
 refine Qrb λaj=>?_;obtain⟨a0,cap,rfl⟩:=Xt ay;obtain⟨aI,aJ,rfl,_⟩:=id az.1;simp only[Qii,QbZ,simprocAttr];generalize ac:Qa.push H _=H1;have g1:H1.get H.y=some (.C [.Z op,.slice a0 l.length cap] 26):=by rw[<- ac,Qc,Lc rfl];rfl
 have aD:Ext H H1:=by rw[<- ac];exact(Ext.refl H).push _
 have br:H1.Wf:=by rw[<- ac];exact aj.push _
 clear ac;simp only[Qb,simprocAttr,g1];refine(QmU H1 (ay.ext aj aD) aR ax).w ?_;rintro sv Hs bo am ⟨aX,bh⟩;have an:=aD.trans bh;obtain⟨bp,aY⟩:=QBw (op:=op) ax;obtain⟨ah,bq,bc,ba⟩:=aX;obtain⟨ap,sc,rfl,aW⟩:=bc;have aG:Qhy (xs.map (·.f)) op l=(GT op l).flatMap λm=>(List.range xs.length).flatMap (frm (xs.map (·.f)) op m):=by unfold Qhy;rw[Nn]
 rw[aG];generalize GT op l=sp at *;simp only[Qb,simprocAttr];refine Qu (λq A' H'=>∃i:Nat,i<=sp.length∧q=sp.length - i∧H'.Wf∧Ext Hs H'∧LsU 40 Hs H' (A' 5) ((sp.take i).flatMap λm=>(List.range xs.length).flatMap (frm (xs.map (·.f)) op m)) H'.y∧A' 1=.slice aI xs.length aJ∧A' 15=.slice ap sp.length sc∧A' 16=.Z sp.length∧A' 17=.Z i) sp.length ?_ ?_
 ·refine⟨0,L7 _,by omega,am,.refl _,?_,?_,?_,?_,?_⟩;·simp only[Qd,simprocAttr];exact LsU.nil _ _ _ _
  all_goals simp only[Qd,simprocAttr]
  all_goals rfl
 rintro q A' H' ⟨i,hi,rfl,ak,ae,ab,r1,r15,aF,ao⟩;simp only[Qfh,Qb,simprocAttr,aF,ao];refine Qg (λaa=>?_) (λaa=>?_)
 ·have aa:i<sp.length:=by have:=Lg aa;omega
  obtain⟨b,e,ro,rfl,aA⟩:=aW (by omega);have aQ:H'.get b=some (.cells (Qwt op ah) e ro):=by rw[ae.get _ (am.lt aA)];exact aA
  obtain⟨s,aC⟩:∃s,ah[i]? = some s:=⟨_,La (by omega)⟩;obtain⟨m,ai⟩:∃m,sp[i]? = some m:=⟨_,La aa⟩;have aM:=QzO op ah i s aC;have bm:=QwA op ah;have d1:(0:Int)<=i∧(i:Int)<sp.length:=by omega
  have d3:(i:Int).toNat=i:=by omega
  have aH:IntKind.i64.wrap ((i:Int)+1)=((i+1:Nat):Int):=by rw[w64 (by unfold I64;omega)];omega
  obtain⟨aB,aN⟩:=ba i s m aC ai;obtain⟨bn,aT⟩:=aY m (Ln ai);obtain⟨ap,sc,rfl⟩:=Xt aB;simp only[Qfg,Qb,simprocAttr,r1,r15,ao,d1,d3,aQ,aM];refine⟨by omega,?_⟩;generalize ad:Qa.set (Qa.push H' _) _ _=H2;have ag:Ext H' H2:=by rw[<- ad];exact((Ext.refl H').push _).set (Lb _) _
  have bd:H2.Wf:=by rw[<- ad];exact(ak.push _).set (b0:=.C [.Z 0,.slice none 0 0] 26) (by rw[Qc,Lc rfl]) _
  have g2:H2.get H'.y=some (.C [.Z op,.slice ap m.length sc] 26):=by rw[<- ad,Qj,Lc rfl]
  clear ad;have aU:¬inB (A' 5) H'.y:=λh=>by
   obtain⟨ss,_,aV,_⟩:=ab.it;have:=(aV.low ak h).2;omega
  have aL:((sp.take i).flatMap λm=>(List.range xs.length).flatMap (frm (xs.map (·.f)) op m)).length<=500000:=by
   have aK:=QbX (f:=λm=>(List.range xs.length).flatMap (frm (xs.map (·.f)) op m)) (n:=144000) (sp.take i) λm _=>by
    have aa:=QbX (f:=frm (xs.map (·.f)) op m) (n:=24) (List.range xs.length) λk _=>Qui _ _ _ _;rw[BO]at aa;omega
   rw[Sb]at aK;omega
  refine QLi (Hs:=Hs) (v:=A' 5) (xs:=xs) (m:=m) (B:=H'.y) aL bj (by omega) aT am (ae.trans ag) bd ((ab.go ak ag).mono ag.y) (az.ext aj an) aO aB aN g2 aU ?_ ?_ ?_ ?_ ?_ ?_;·simp only[Qd,simprocAttr]
  ·simp only[Qd,simprocAttr]
  ·simp only[Qd,simprocAttr]
  ·simp only[Qd,simprocAttr]
  ·simp only[Qd,simprocAttr]
  rintro A2 H3 v3 rfl ⟨aq,ar,au,av⟩ bg aS aP;simp only[Qd,simprocAttr]at aq ar au av;have bi:=aP.old (ae.trans ag) ab.ls.own;have aZ:(sp.take (i+1)).flatMap (λm=>(List.range xs.length).flatMap (frm (xs.map (·.f)) op m))=(sp.take i).flatMap (λm=>(List.range xs.length).flatMap (frm (xs.map (·.f)) op m))++(List.range xs.length).flatMap (frm (xs.map (·.f)) op m):=by
   rw[Nv,ai,Bm];simp
  simp only[Qb,simprocAttr,av,ao,aH];refine⟨sp.length - (i+1),by omega,i+1,by omega,rfl,bg,bi,?_,?_,?_,?_,?_⟩;·simp only[Qd,simprocAttr];rw[aZ];exact aS
  ·simp only[Qd,simprocAttr,aq,r1]
  ·simp only[Qd,simprocAttr,ar,r15]
  ·simp only[Qd,simprocAttr,au,aF]
  simp only[Qd,simprocAttr]
 have aa:i=sp.length:=by have:=Ll aa;omega
 subst aa;rw[Nr]at ab;simp only[Qb,simprocAttr,Qpx];have aE:=an.trans ae;exact .mk aE.y ⟨ab.down an.y,aE⟩
def By (l:List Int)(n:Nat):Prop:=l.length<=n∧∀z∈l,0<=z∧z<256
def By.nil (n:Nat):By [] n:=⟨L7 _,λz h=>by cases h⟩
def By.app {l m:List Int}{a b:Nat}(h:By l a)(k:By m b):By (l++m) (a+b):=⟨by rw[Lh];have:=h.1;have:=k.1;omega,λz q=>(LI.1 q).elim (h.2 z) (k.2 z)⟩
def By.mono {l:List Int}{a b:Nat}(h:By l a)(q:a<=b):By l b:=⟨N8 h.1 q,h.2⟩
def By.one {z:Int}(h:0<=z∧z<256):By [z] 1:=⟨Lb _,λy q=>by cases Sa.1 q;exact h⟩
def QI8 (z:Int):0<=IntKind.u8.wrap z∧IntKind.u8.wrap z<256:=by
 unfold IntKind.wrap;simp[IntKind.bits,IntKind.signed];omega
def Qhz {h m l:Int}(q:0<=h∧h<4)(ab:0<=m∧m<8)(aa:0<=l∧l<8):0<=Qn h m l∧Qn h m l<256:=by unfold Qn;omega
def QlM (n sz:Int):By (ZE n sz).1 sz.toNat:=by
 unfold ZE;split;·exact By.nil _
 split;·exact By.nil _
 refine⟨by simp[YY],λz q=>?_⟩;obtain⟨i,_,rfl⟩:=N4.1 q;unfold Qqu;exact QI8 _
def QGv (f:Fm)(op:Int)(l:List Ar):By (Jp f op l) ((if 0<=Qh f.slots 5 then(tlN f).toNat else 0)+(if 0<=Qh f.slots 7 then 1 else 0)):=by
 unfold Jp;refine By.app ?_ ?_
 ·split;·exact QlM _ _
  exact By.nil _
 split;·exact By.one (QI8 _)
 exact By.nil _
def QI9 (f:Fm)(l:List Ar):0<=Kw f l∧Kw f l<256:=by
 unfold Kw;split<;>exact QI8 _
def QwB {mid:Int}(aa:0<=mid∧mid<8)(q:Rg)(f d:Int):By (GP mid q f d).b 6:=by
 unfold GP;refine By.app (a:=2) ?_ (QlM d 4);refine By.app (l:=[_]) (m:=[_]) (a:=1) (b:=1) (By.one (Qhz (by decide) aa (by decide))) (By.one ?_);cases isR q 0 0 with
 | true=>exact Qhz (by decide) (by decide) (by decide)
 | false=>exact Qhz (QlC f) (Qdb q) (by decide)
def QmW {mid rm:Int}(ab:0<=mid∧mid<8)(ac:0<=rm∧rm<8){sib:List Int}(ad:By sib 1)(m:Mm):∀w∈Xr mid rm sib m,By w.b 6:=by
 intro w aa;unfold Xr at aa;obtain⟨md,q,h⟩:=NF.1 aa;have q:=LU.1 q;unfold Zh at h;split at h
 ·rw[Sa]at h;subst h;refine By.app (By.app (By.one (Qhz (by omega) ab ac)) ad) (b:=4) ?_;unfold Qf8;split;·exact By.nil _
  split;·exact(QlM _ _).mono (by decide)
  exact QlM _ _
 cases h
def QGw {mid:Int}(aa:0<=mid∧mid<8)(m:Mm):∀w∈Y3 mid m,By w.b 6:=by
 intro w q;unfold Y3 at q;split at q;·rw[Sa]at q;subst q;exact(By.app (By.one (Qhz (by decide) aa (by decide))) (QlM m.d 4)).mono (by decide)
 split at q;·rw[Sa]at q;subst q;exact QwB aa _ _ _
 split at q;·exact QmW aa (by decide) (By.one (Qhz (QlC _) (Qdb _) (Qdb _))) m w q
 rcases LI.1 q with q | q
 ·split at q;·cases q
  exact QmW aa (Qdb _) ((By.nil 0).mono (by decide)) m w q
 rcases LI.1 q with q | q;·exact QmW aa (by decide) (By.one (Qhz (by decide) (by decide) (Qdb _))) m w q
 split at q;·cases q
 rw[Sa]at q;subst q;exact QwB aa _ _ _
def QGx (mid:Int)(a:Ar):∀w∈(Qec mid a).1,By w.b 6:=by
 intro w q;unfold Qec at q;split at q;·cases q
 rename_i h;have aa:0<=mid∧mid<8:=by simp at h;omega
 split at q;·cases q
 split at q;·rw[Sa]at q;subst q;exact(By.one (Qhz (by decide) aa (Qdb _))).mono (by decide)
 split at q;·exact QGw aa _ w q
 cases q
def QBx (f:Fm)(l:List Ar):∀w∈WT f l,By w.b (if Qh f.slots 2<0 then 0 else 6):=by
 intro w q;unfold WT at q
 by_cases h:Qh f.slots 2<0;·rw[Lc h]at q ⊢;rw[Sa]at q;subst q;exact By.nil _
 rw[Le h]at q ⊢;split at q;·exact QGx _ _ w q
 cases q
def QLj (f:Fm)(l:List Ar){h:Int}(q:0<=h∧h<2):0<=hB f l h∧hB f l h<2:=by
 unfold hB;split;·exact QhO _ _ _
 exact q
def QJa (p:Int):By (QaN p) (QaN p).length:=by
 refine⟨Lb _,λz q=>?_⟩;unfold QaN at q;have q:z=102∨z=242∨z=243:=by
  rcases LI.1 q with h | h
  ·split at h;·exact .inl (Sa.1 h)
   cases h
  rcases LI.1 h with h | h
  ·split at h;·exact .inr (.inl (Sa.1 h))
   cases h
  split at h;·exact .inr (.inr (Sa.1 h))
  cases h
 omega
def QJb (m:Int):By (Gb m) (Gb m).length:=by
 refine⟨Lb _,λz q=>?_⟩;unfold Gb at q
 repeat' split at q
 all_goals simp at q
 all_goals omega
def QqP {y:Vx}(h:y.Ok):By (Jn y) 3:=by
 have ad:=QoO y.pre;have ae:=h.r;have hx:=h.x;have aa:=h.b;have ac:=h.mp;have ah:=h.w;have ag:=h.v;have ab:=h.l;refine⟨Lb _,λz q=>?_⟩;unfold Jn vbm vbn at q;simp only[LK,Ns,NN]at q;omega
def QJc {y:Vx}(h:y.Ok)(any:Bool):∀aa∈QqC y any,By aa 3:=by
 have ad:=QoO y.pre;have ae:=h.r;have ag:=h.v;have ac:=h.l;intro aa q;unfold QqC at q;rcases LI.1 q with q | q
 ·split at q;·rw[Sa]at q;subst q;refine⟨by simp,λz ab=>?_⟩;unfold vb2 at ab;simp only[LK,Ns,NN]at ab;omega
  cases q
 rcases LI.1 q with q | q
 ·rw[Sa]at q;subst q;cases any with
  | true=>exact QqP (h.setW 0 (by decide))
  | false=>exact QqP h
 cases any with
 | true=>
  rw[Lq,Sa]at q;subst q;exact QqP (h.setW 1 (by decide))
 | false=>cases q
def hdN (f:Fm):Nat:=if f.vex=true then 3 else(QaN f.pre).length+1+(Gb f.map).length
def QD2 {f:Fm}{op:Int}{l:List Ar}(ad:Qe3 f op l=true){x h:Int}(hx:0<=x∧x<2)(ae:0<=h∧h<2):∀ac∈GQ f l x h,By ac (hdN f):=by
 intro ac q;have ag:=QlJ (Vp ad).2.2.1;unfold GQ at q;unfold hdN
 by_cases ab:f.vex=true;·rw[Lc ab]at q ⊢;exact QJc (QHh ad ab hx ae) _ ac q
 rw[Le ab]at q ⊢;obtain⟨n,aa,rfl⟩:=N4.1 q;refine By.app ?_ (QJb _);unfold QbS;refine By.app (QJa _) ?_;split
 ·rename_i ah;refine By.one ?_;have ai:=QLj f l ae;have aj:=QhO f l 1;have ak:=ag.w (by simpa using ab);have aa:n=VP f.w (QbU f l 1) x (hB f l h)∨n=-1∨n=0:=by
   unfold chF at aa
   repeat' split at aa
   all_goals simp at aa
   all_goals omega
  unfold VP at aa;omega
 exact By.nil _
def fmN (f:Fm):Nat:=hdN f+1+(if Qh f.slots 2<0 then 0 else 6)+((if 0<=Qh f.slots 5 then(tlN f).toNat else 0)+(if 0<=Qh f.slots 7 then 1 else 0))
def QJd (f:Fm)(op:Int)(l:List Ar):∀w∈Qhx f op l,By w.b (fmN f)∧1<=w.b.length:=by
 intro w q;unfold Qhx at q;split at q;·rename_i ac;obtain⟨p,aa,q⟩:=NF.1 q;obtain⟨hx,ad,_⟩:=(QhQ f l).2 p aa;unfold Qel at q;obtain⟨ab,ae,rfl⟩:=N4.1 q;exact⟨((By.app (By.app (QD2 ac hx ad ab ae) (By.one (QI9 f l))) (QBx f l p aa)).app (QGv f op l)),by simp only[Lh,Lo,L9];omega⟩
 cases q
def QJe {L:List Fm}(ad:(L.all λf=>decide (fmN f<=15))=true)(op:Int)(l:List Ar):∀w∈Qhy L op l,(1<=w.b.length∧w.b.length<=15)∧∀z∈w.b,0<=z∧z<256:=by
 intro w q;unfold Qhy at q;obtain⟨m,_,q⟩:=NF.1 q;obtain⟨k,_,q⟩:=NF.1 q;unfold frm at q;split at q;·rename_i f ae;obtain⟨v,ag,rfl⟩:=N4.1 q;obtain⟨aa,ab⟩:=QJd f op m v ag;have ac:=Lg (Li.1 ad f (Ln ae));exact⟨⟨ab,N8 aa.1 ac⟩,aa.2⟩
 cases q
def QGy {f:Fm}{op:Int}{l:List Ar}{x:Ld}(h:x∈Qhx f op l):Qe3 f op l=true∧∃w∈WT f l,∃d∈GQ f l w.x w.h,x.b=d++Kw f l::(w.b++Jp f op l):=by
 unfold Qhx at h;split at h;·rename_i aa;obtain⟨w,ab,h⟩:=NF.1 h;unfold Qel at h;obtain⟨d,q,rfl⟩:=N4.1 h;exact⟨aa,w,ab,d,q,by simp only[LQ,Nm,LH]⟩
 cases h
def QBz (L:List Fm)(op:Int)(l:List Ar):List Ld×Int:=
 if(QZ op l==0)=false then([],QZ op l) else if(Qhy L op l).isEmpty=true then([],8) else(Qhy L op l,0)
section
variable {T:Qa->Prop} {L:Int->List Fm} (hT:∀H H',H.Wf->T H->Ext H H'->T H') (hO:∀op H,T H->Qe Pg 31 [.Z op] H λu H'=>QdY H H' u (L op))
include hT hO
def Qul {op:Int}{va:Value}{l:List Ar}(H:Qa)(au:T H)(ah:Wg H va l)(aw:∀n,H.y<=n->Qp n 6 (.agg #[.Z op,va])=true)(am:l.length<=1000)(aj:∀a∈l,I64 a.n):
  Qe Pg 11 [.agg #[.Z op,va]] H λu H'=>∃v,u=.tuple #[v,.Z (QBz (L op) op l).2]∧LsU 40 H H' v (QBz (L op) op l).1 H'.y∧Ext H H':=by
 refine Qra λae=>?_;obtain⟨a0,cap,rfl⟩:=Xt ah;obtain⟨W,q⟩:∃W,W=QBz (L op) op l:=⟨_,rfl⟩;rw[<- q];unfold QBz at q;simp only[Qih,QbZ,simprocAttr];generalize ad:Qa.push H _=H1;have g1:H1.get H.y=some (.C [.Z op,.slice a0 l.length cap] 26):=by rw[<- ad,Qc,Lc rfl];rfl
 have an:Ext H H1:=by rw[<- ad];exact(Ext.refl H).push _
 have ax:H1.Wf:=by rw[<- ad];exact ae.push _
 clear ad;simp only[Qb,simprocAttr,g1];refine(QeP op _ l H1 (ah.ext ae an) am aj).w ?_;rintro _ _ av aG ⟨rfl,aq,rfl⟩;have ao:Ext H1 (H1.up aq):=(Ext.refl H1).up av;generalize H1.up aq=H2 at *;have ac:=an.trans ao;have g2:H2.get H.y=some (.C [.Z op,.slice a0 l.length cap] 26):=by rw[ao.get _ (ax.lt g1)];exact g1
 simp only[Qb,simprocAttr];cases ak:QZ op l==0 with
 | false=>
  rw[ak,Lc rfl]at q;simp only[Qb,simprocAttr,LM,Qa0];exact .mk ac.y ⟨_,by rw[q],by rw[q];exact LsU.nil _ _ _ _,ac⟩
 | true=>
  rw[ak,Le (by simp)]at q;simp only[Qb,simprocAttr,L8,g2];refine⟨aw _ ac.y,?_⟩;refine(hO op H2 (hT _ _ ae au ac)).w ?_;rintro aD H3 aE aH ⟨ap,ys,ar,az,aB,aA⟩;have ai:=ac.trans ap;simp only[Qb,simprocAttr];refine⟨ap.eqB,?_⟩;refine(Quj H3 (ah.ext ae ai) am aj az.fms (λx hx=>(aA x hx).mono (L7 _)) aB).w ?_;rintro v H4 aF aI ⟨ab,ay⟩;rw[ar]at ab;have ag:=ai.trans ay;have ab:=ab.down ai.y;generalize Qhy (L op) op l=Q at *;obtain⟨a4,aC,rfl⟩:=ab.ls.slc;simp only[Qb,simprocAttr,W6];refine Qg (λh=>?_) (λh=>?_);·have aa:Q=[]:=N2.1 (by simpa using h);rw[aa,Lc (show([]:List Ld).isEmpty=true from rfl)]at q;simp only[Qb,simprocAttr,Qa0];exact .mk ag.y ⟨_,by rw[q],by rw[q];exact LsU.nil _ _ _ _,ag⟩
  have aa:Q≠[]:=λaa=>by rw[aa]at h;simp at h
  rw[Le (by simpa using aa)]at q;simp only[Qb,simprocAttr,Qa0];exact .mk ag.y ⟨_,by rw[q],by rw[q];exact ab,ag⟩
end
def Qys (op:Int)(l:List Ar):(GT op l).length<=2:=by
 unfold GT;split;·split<;>simp
 simp
def QGG {L:List Fm}{op:Int}{l:List Ar}(ac:L.length<=6000):(Qhy L op l).length<=288000:=by
 unfold Qhy;have aa:=Qys op l;have ab:=QbX (f:=λm=>(List.range L.length).flatMap (frm L op m)) (n:=144000) (GT op l) λm _=>by
  have q:=QbX (f:=frm L op m) (n:=24) (List.range L.length) λk _=>Qui _ _ _ _;rw[BO]at q;omega
 omega
def QD9 (H0 H:Qa)(v:Value):Option (List Int)->Prop
 | none=>v=.slice none 0 0
 | some b=>b≠[]∧Gx 1 5 H0 H v b.length (bys b)
def QD9.go {H0 H H':Qa}{v:Value}{o:Option (List Int)}(h:QD9 H0 H v o)(q:H.Wf)(hx:Ext H H'):QD9 H0 H' v o:=by
 cases o with
 | none=>exact h
 | some b=>exact⟨h.1,h.2.go q hx⟩
section
variable {T:Qa->Prop} {L:Int->List Fm} (hT:∀H H',H.Wf->T H->Ext H H'->T H') (hO:∀op H,T H->Qe Pg 31 [.Z op] H λu H'=>QdY H H' u (L op))
include hT hO
end
