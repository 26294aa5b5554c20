import Derived.Test.YtopkfjiipdjbmaaGreatDoorLibB
import Derived.Test.YtopkfjiipdjbmaaGreatDoorLibN
import Derived.Test.YtopkfjiipdjbmaaGreatDoorLibI
import Derived.Test.YtopkfjiipdjbmaaGreatDoorLibR
set_option linter.defProp false
set_option linter.unusedVariables false
set_option linter.unusedSimpArgs false
set_option maxRecDepth 100000
set_option maxHeartbeats 4000000
noncomputable section
namespace Go.Proofs.YtopkfjiipdjbmaaGreatDoor.code
open Go.Ab
structure Gv where
 a:Ar
 bits:Int
 n:Int
def Gv.cells (g:Gv):List Value:=[.Z g.a.k,.Z g.a.r.c,.Z g.a.r.n,.Z g.a.m.b.c,.Z g.a.m.b.n,.Z g.a.m.i.c,.Z g.a.m.i.n,.Z g.a.m.sc,.Z g.a.m.d,.Z g.a.m.sz,.Z g.a.n,.Z g.bits,.Z g.n]
def WR (g:Gv)(c:Int):Bool:=(g.a.k==1)&&(g.a.r.c==c)
def Ys (g:Gv)(z:Int):Bool:=(g.a.k==2)&&(g.a.m.sz==z)
def Yt (g:Gv)(c:Int)(H:Qa):Qe Pg 186 [.agg g.cells.toArray,.Z c] H λu H'=>u=.bool (WR g c)∧∃k,H'=H.up k:=by
 refine QiW λaa=>?_;unfold WR;obtain⟨⟨k,⟨ah,ai⟩,⟨⟨ab,ac⟩,⟨ae,ag⟩,sc,d,sz⟩,n⟩,bits,ad⟩:=g;simp only[Gv.cells,QaI,Qb,simprocAttr];cases h:k==1<;>simp only[Qb,simprocAttr,QhZ]
 all_goals exact .ext aa ((Ext.refl H).push _) ⟨by simp,_,rfl⟩
def ZS (g:Gv)(z:Int)(H:Qa):Qe Pg 195 [.agg g.cells.toArray,.Z z] H λu H'=>u=.bool (Ys g z)∧∃k,H'=H.up k:=by
 refine QiX λaa=>?_;unfold Ys;obtain⟨⟨k,⟨ah,ai⟩,⟨⟨ab,ac⟩,⟨ae,ag⟩,sc,d,sz⟩,n⟩,bits,ad⟩:=g;simp only[Gv.cells,QaJ,Qb,simprocAttr];cases h:k==2<;>simp only[Qb,simprocAttr,Qh0]
 all_goals exact .ext aa ((Ext.refl H).push _) ⟨by simp,_,rfl⟩
/-! The tests. -/
def QMv (g:Gv)(H:Qa):Qe Pg 187 [.agg g.cells.toArray] H λu H'=>u=.bool (false)∧∃m,H'=H.up m:=by
 refine Qot λaa=>?_;obtain⟨⟨k,⟨ah,ai⟩,⟨⟨ab,ac⟩,⟨ae,ag⟩,sc,d,sz⟩,n⟩,bits,ad⟩:=g;simp only[Gv.cells,QfF,Qb,simprocAttr,QmL];exact .ext aa ((Ext.refl H).push _) ⟨rfl,_,rfl⟩
def QMw (g:Gv)(H:Qa):Qe Pg 188 [.agg g.cells.toArray] H λu H'=>u=.bool (WR g 1||WR g 2)∧∃m,H'=H.up m:=by
 refine Qou λac=>?_;have aa:=Yt g 1;obtain⟨ag,e0⟩:∃v,WR g 1=v:=⟨_,rfl⟩;rw[e0]at aa ⊢;have ab:=Yt g 2;obtain⟨ar,e1⟩:∃v,WR g 2=v:=⟨_,rfl⟩;rw[e1]at ab ⊢;clear e0 e1;obtain⟨⟨k,⟨ap,aq⟩,⟨⟨ah,ai⟩,⟨am,ao⟩,sc,d,sz⟩,n⟩,bits,aj⟩:=g;simp only[Gv.cells]at aa ab;simp only[Gv.cells,QfG,Qb,simprocAttr];refine(aa _).w ?_;rintro _ _ ad ak ⟨rfl,an,rfl⟩;simp only[Qd,Qw]at ad;cases ag with
 | true=>
  simp only[Qb,simprocAttr,QdY];exact .ext ac (((Ext.refl H).push _).up (by simp only[Qd];omega)) ⟨by simp,_,rfl⟩
 | false=>
  simp only[Qb,simprocAttr];refine(ab _).w ?_;rintro _ _ ae al ⟨rfl,k1,rfl⟩;simp only[Qw]at ae;simp only[Qb,simprocAttr,QdY];exact .ext ac ((((Ext.refl H).push _).up (by simp only[Qd];omega)).up (by simp only[Qw];omega)) ⟨by simp,_,rfl⟩
def QMC (g:Gv)(H:Qa):Qe Pg 194 [.agg g.cells.toArray] H λu H'=>u=.bool (WR g 1||WR g 2||Ys g 1)∧∃m,H'=H.up m:=by
 refine QoA λaa=>?_;have ab:=Yt g 1;obtain⟨ai,e0⟩:∃v,WR g 1=v:=⟨_,rfl⟩;rw[e0]at ab ⊢;have ac:=Yt g 2;obtain⟨aj,e1⟩:∃v,WR g 2=v:=⟨_,rfl⟩;rw[e1]at ac ⊢;have ad:=ZS g 1;obtain⟨ay,e2⟩:∃v,Ys g 1=v:=⟨_,rfl⟩;rw[e2]at ad ⊢;clear e0 e1 e2;obtain⟨⟨k,⟨av,ax⟩,⟨⟨ak,al⟩,⟨aq,au⟩,sc,d,sz⟩,n⟩,bits,am⟩:=g;simp only[Gv.cells]at ab ac ad;simp only[Gv.cells,QfM,Qb,simprocAttr];refine(ab _).w ?_;rintro _ _ ae an ⟨rfl,ar,rfl⟩;simp only[Qd,Qw]at ae;cases ai with
 | true=>
  simp only[Qb,simprocAttr,Vk];exact .ext aa (((Ext.refl H).push _).up (by simp only[Qd];omega)) ⟨by simp,_,rfl⟩
 | false=>
  simp only[Qb,simprocAttr];refine(ac _).w ?_;rintro _ _ ag ao ⟨rfl,k1,rfl⟩;simp only[Qw]at ag;cases aj with
  | true=>
   simp only[Qb,simprocAttr,Vk];exact .ext aa ((((Ext.refl H).push _).up (by simp only[Qd];omega)).up (by simp only[Qw];omega)) ⟨by simp,_,rfl⟩
  | false=>
   simp only[Qb,simprocAttr];refine(ad _).w ?_;rintro _ _ ah ap ⟨rfl,k2,rfl⟩;simp only[Qw]at ah;simp only[Qb,simprocAttr,Vk];exact .ext aa (((((Ext.refl H).push _).up (by simp only[Qd];omega)).up (by simp only[Qw];omega)).up (by simp only[Qw];omega)) ⟨by simp,_,rfl⟩
def QLH (g:Gv)(H:Qa):Qe Pg 210 [.agg g.cells.toArray] H λu H'=>u=.bool (decide (8<g.bits)&&decide (-128<=g.n)&&decide (g.n<=127))∧∃m,H'=H.up m:=by
 refine Qm5 λac=>?_;obtain⟨⟨k,⟨aj,ak⟩,⟨⟨ad,ae⟩,⟨ah,ai⟩,sc,d,sz⟩,n⟩,bits,aa⟩:=g;simp only[Gv.cells,Qed,Qb,simprocAttr];cases ag:decide (8<bits)<;>cases ab:decide (-128<=aa)<;>simp only[Qb,simprocAttr,ab,QlH]
 all_goals exact .ext ac ((Ext.refl H).push _) ⟨by simp,_,rfl⟩
def QLK (g:Gv)(H:Qa):Qe Pg 213 [.agg g.cells.toArray] H λu H'=>u=.bool ((g.bits==64)&&decide (-2147483648<=g.n)&&decide (g.n<=2147483647))∧∃m,H'=H.up m:=by
 refine Qm8 λac=>?_;obtain⟨⟨k,⟨aj,ak⟩,⟨⟨ad,ae⟩,⟨ah,ai⟩,sc,d,sz⟩,n⟩,bits,aa⟩:=g;simp only[Gv.cells,Qeg,Qb,simprocAttr];cases ag:bits==64<;>cases ab:decide (-2147483648<=aa)<;>simp only[Qb,simprocAttr,ab,QlK]
 all_goals exact .ext ac ((Ext.refl H).push _) ⟨by simp,_,rfl⟩
def QLM (g:Gv)(H:Qa):Qe Pg 215 [.agg g.cells.toArray] H λu H'=>u=.bool ((g.a.k==4)&&decide (-128<=g.a.n)&&decide (g.a.n<=127))∧∃m,H'=H.up m:=by
 refine Qna λab=>?_;obtain⟨⟨k,⟨aj,ak⟩,⟨⟨ac,ad⟩,⟨ah,ai⟩,sc,d,sz⟩,n⟩,bits,ae⟩:=g;simp only[Gv.cells,Qei,Qb,simprocAttr];cases ag:k==4<;>cases aa:decide (-128<=n)<;>simp only[Qb,simprocAttr,aa,QlM]
 all_goals exact .ext ab ((Ext.refl H).push _) ⟨by simp,_,rfl⟩
def QLN (g:Gv)(H:Qa):Qe Pg 216 [.agg g.cells.toArray] H λu H'=>u=.bool ((g.a.k==4))∧∃m,H'=H.up m:=by
 refine Qnb λaa=>?_;obtain⟨⟨k,⟨ah,ai⟩,⟨⟨ab,ac⟩,⟨ae,ag⟩,sc,d,sz⟩,n⟩,bits,ad⟩:=g;simp only[Gv.cells,Qej,Qb,simprocAttr];simp only[QlN];exact .ext aa ((Ext.refl H).push _) ⟨rfl,_,rfl⟩
def QLO (g:Gv)(H:Qa):Qe Pg 217 [.agg g.cells.toArray] H λu H'=>u=.bool (decide (0<g.bits)&&(g.n==1))∧∃m,H'=H.up m:=by
 refine Qnc λaa=>?_;obtain⟨⟨k,⟨ai,aj⟩,⟨⟨ab,ac⟩,⟨ag,ah⟩,sc,d,sz⟩,n⟩,bits,ad⟩:=g;simp only[Gv.cells,Qek,Qb,simprocAttr];cases ae:decide (0<bits)<;>simp only[Qb,simprocAttr,QlO]
 all_goals exact .ext aa ((Ext.refl H).push _) ⟨by simp,_,rfl⟩
def QOh (c:Int)(f:FuncId)(ac:(f,c)∈[(189,(3:Int)),(190,(4:Int)),(191,(5:Int)),(192,(6:Int)),(193,(7:Int))])(g:Gv)(H:Qa):Qe Pg f [.agg g.cells.toArray] H λu H'=>u=.bool (WR g c)∧∃m,H'=H.up m:=by
 have ab:=Yt g c;obtain⟨ao,e0⟩:∃v,WR g c=v:=⟨_,rfl⟩;rw[e0]at ab ⊢;clear e0;obtain⟨⟨k,⟨am,an⟩,⟨⟨ae,ag⟩,⟨aj,al⟩,sc,d,sz⟩,n⟩,bits,ah⟩:=g;simp only[Gv.cells]at ab;simp only[LK,LB,Ns,NN]at ac;rcases ac with⟨rfl,rfl⟩ | ⟨rfl,rfl⟩ | ⟨rfl,rfl⟩ | ⟨rfl,rfl⟩ | ⟨rfl,rfl⟩
 all_goals
  first | refine Qov λaa=>?_ | refine Qow λaa=>?_ | refine Qox λaa=>?_ | refine Qoy λaa=>?_ | refine Qoz λaa=>?_
  simp only[Gv.cells,QfH,QfI,QfJ,QfK,QfL,Qb,simprocAttr];refine(ab _).w ?_;rintro _ _ ad ai ⟨rfl,ak,rfl⟩;simp only[Qd,Qw]at ad;simp only[Qb,simprocAttr,QmM,QmN,QmO,QmP,QmQ];exact .ext aa (((Ext.refl H).push _).up (by simp only[Qd];omega)) ⟨by simp,_,rfl⟩
def QN8 (c:Int)(f:FuncId)(ac:(f,c)∈[(203,(0:Int)),(204,(2:Int)),(205,(4:Int)),(206,(8:Int)),(207,(16:Int)),(208,(32:Int))])(g:Gv)(H:Qa):Qe Pg f [.agg g.cells.toArray] H λu H'=>u=.bool (Ys g c)∧∃m,H'=H.up m:=by
 have ab:=ZS g c;obtain⟨ao,e0⟩:∃v,Ys g c=v:=⟨_,rfl⟩;rw[e0]at ab ⊢;clear e0;obtain⟨⟨k,⟨am,an⟩,⟨⟨ae,ag⟩,⟨aj,al⟩,sc,d,sz⟩,n⟩,bits,ah⟩:=g;simp only[Gv.cells]at ab;simp only[LK,LB,Ns,NN]at ac;rcases ac with⟨rfl,rfl⟩ | ⟨rfl,rfl⟩ | ⟨rfl,rfl⟩ | ⟨rfl,rfl⟩ | ⟨rfl,rfl⟩ | ⟨rfl,rfl⟩
 all_goals
  first | refine QmY λaa=>?_ | refine QmZ λaa=>?_ | refine Qm0 λaa=>?_ | refine Qm1 λaa=>?_ | refine Qm2 λaa=>?_ | refine Qm3 λaa=>?_
  simp only[Gv.cells,Qd6,Qd7,Qd8,Qd9,Qea,Qeb,Qb,simprocAttr];refine(ab _).w ?_;rintro _ _ ad ai ⟨rfl,ak,rfl⟩;simp only[Qd,Qw]at ad;simp only[Qb,simprocAttr,QlA,QlB,QlC,QlD,QlE,QlF];exact .ext aa (((Ext.refl H).push _).up (by simp only[Qd];omega)) ⟨by simp,_,rfl⟩
def QNT (c z:Int)(f:FuncId)(ad:(f,c,z)∈[(196,(3:Int),(2:Int)),(197,(4:Int),(4:Int)),(198,(5:Int),(8:Int)),(199,(6:Int),(4:Int)),(200,(6:Int),(8:Int)),(201,(6:Int),(16:Int)),(202,(7:Int),(32:Int))])(g:Gv)(H:Qa):Qe Pg f [.agg g.cells.toArray] H λu H'=>u=.bool (WR g c||Ys g z)∧∃m,H'=H.up m:=by
 have ab:=Yt g c;obtain⟨ah,e0⟩:∃v,WR g c=v:=⟨_,rfl⟩;rw[e0]at ab ⊢;have ac:=ZS g z;obtain⟨au,e1⟩:∃v,Ys g z=v:=⟨_,rfl⟩;rw[e1]at ac ⊢;clear e0 e1;obtain⟨⟨k,⟨aq,ar⟩,⟨⟨ai,aj⟩,⟨an,ap⟩,sc,d,sz⟩,n⟩,bits,ak⟩:=g;simp only[Gv.cells]at ab ac;simp only[LK,LB,Ns,NN]at ad;rcases ad with⟨rfl,rfl,rfl⟩ | ⟨rfl,rfl,rfl⟩ | ⟨rfl,rfl,rfl⟩ | ⟨rfl,rfl,rfl⟩ | ⟨rfl,rfl,rfl⟩ | ⟨rfl,rfl,rfl⟩ | ⟨rfl,rfl,rfl⟩
 all_goals
  first | refine QmR λaa=>?_ | refine QmS λaa=>?_ | refine QmT λaa=>?_ | refine QmU λaa=>?_ | refine QmV λaa=>?_ | refine QmW λaa=>?_ | refine QmX λaa=>?_
  simp only[Gv.cells,QdZ,Qd0,Qd1,Qd2,Qd3,Qd4,Qd5,Qb,simprocAttr];refine(ab _).w ?_;rintro _ _ ae al ⟨rfl,ao,rfl⟩;simp only[Qd,Qw]at ae;cases ah with
  | true=>
   simp only[Qb,simprocAttr,QcM,QcN,QcO,QcP,QcQ,QcR,QcS];exact .ext aa (((Ext.refl H).push _).up (by simp only[Qd];omega)) ⟨by simp,_,rfl⟩
  | false=>
   simp only[Qb,simprocAttr];refine(ac _).w ?_;rintro _ _ ag am ⟨rfl,k1,rfl⟩;simp only[Qw]at ag;simp only[Qb,simprocAttr,QcM,QcN,QcO,QcP,QcQ,QcR,QcS];exact .ext aa ((((Ext.refl H).push _).up (by simp only[Qd];omega)).up (by simp only[Qw];omega)) ⟨by simp,_,rfl⟩
def QO1 (c:Int)(f:FuncId)(ab:(f,c)∈[(209,(8:Int)),(211,(16:Int)),(212,(32:Int)),(214,(64:Int))])(g:Gv)(H:Qa):Qe Pg f [.agg g.cells.toArray] H λu H'=>u=.bool (g.bits==c)∧∃m,H'=H.up m:=by
 obtain⟨⟨k,⟨ai,aj⟩,⟨⟨ac,ad⟩,⟨ag,ah⟩,sc,d,sz⟩,n⟩,bits,ae⟩:=g;simp only[LK,LB,Ns,NN]at ab;rcases ab with⟨rfl,rfl⟩ | ⟨rfl,rfl⟩ | ⟨rfl,rfl⟩ | ⟨rfl,rfl⟩
 all_goals
  first | refine Qm4 λaa=>?_ | refine Qm6 λaa=>?_ | refine Qm7 λaa=>?_ | refine Qm9 λaa=>?_
  simp only[Gv.cells,Qec,Qee,Qef,Qeh,Qb,simprocAttr];simp only[QlG,QlI,QlJ,QlL];exact .ext aa ((Ext.refl H).push _) ⟨rfl,_,rfl⟩
def QsG (c n:Int)(H:Qa):Qe Pg 184 [.Z c,.Z n] H λu H'=>∃p q,u=.agg #[.func (.func 185) #[] #[.P p,.P q]]∧Ext H H'∧H'.get p=some (.C [.Z c] 3)∧H'.get q=some (.C [.Z n] 3)∧p<H'.y∧q<H'.y:=by
 refine Qos λaa=>?_;simp only[QfE,Qb,simprocAttr,JI,Zm,QmK];have hx:∀b,Ext H ((((H.push (.C [.Z c] 3)).push (.C [.Z n] 3)).push (.C [.nilFunc] 204)).set (H.y+1+1) b):=λb=>((((Ext.refl H).push _).push _).push _).set (by omega) _;refine .mk (hx _).y ⟨H.y,H.y+1,rfl,hx _,?_,?_,by simp only[Qo,Qd];omega,by simp only[Qo,Qd];omega⟩;·rw[Qh,Le (by omega),Qc,Le (by simp only[Qd];omega),Qc,Le (by simp only[Qd];omega),Qc,Lc rfl]
 rw[Qh,Le (by omega),Qc,Le (by simp only[Qd];omega),Qc,Lc (by simp only[Qd])]
def QHZ (g:Gv)(c n:Int)(p q:Nat)(H:Qa)(ab:H.get p=some (.C [.Z c] 3))(ac:H.get q=some (.C [.Z n] 3)):Qe Pg 185 [.agg g.cells.toArray,.P p,.P q] H λu H'=>u=.bool (WR g c&&(g.a.r.n==n))∧Ext H H':=by
 refine Qlz λad=>?_;have aa:=Yt g c;obtain⟨v,ev⟩:∃v,WR g c=v:=⟨_,rfl⟩;rw[ev]at aa ⊢;clear ev;have ar:=ad.lt ab;have au:=ad.lt ac;have am:¬p=H.y:=by omega
 have an:¬q=H.y:=by omega
 obtain⟨⟨k,⟨ao,ap⟩,⟨⟨ae,ag⟩,⟨aj,al⟩,sc,d,sz⟩,ak⟩,bits,ah⟩:=g;simp only[Gv.cells]at aa;simp only[Gv.cells,QcL,Qb,simprocAttr,am,ab];refine(aa _).w ?_;rintro _ _ ai aq ⟨rfl,k1,rfl⟩;simp only[Qd,Qw]at ai;have hx:=((Ext.refl H).push (.C [.Z k,.Z ao,.Z ap,.Z ae,.Z ag,.Z aj,.Z al,.Z sc,.Z d,.Z sz,.Z ak,.Z bits,.Z ah] 201)).up (m:=k1) (by simp only[Qd];omega);cases v with
 | false=>
  simp only[Qb,simprocAttr,Qbx];exact .mk hx.y ⟨by simp,hx⟩
 | true=>
  simp only[Qb,simprocAttr,an,ac,Qbx];exact .mk hx.y ⟨by simp,hx⟩
def QnB (s:Nat)(g:Gv):Bool:=
 match s with
 | 0=>false
 | 1=>WR g 1||WR g 2 | 2=>WR g 3 | 3=>WR g 4 | 4=>WR g 5 | 5=>WR g 6 | 6=>WR g 7
 | 7=>WR g 1||WR g 2||Ys g 1 | 8=>WR g 3||Ys g 2 | 9=>WR g 4||Ys g 4 | 10=>WR g 5||Ys g 8
 | 11=>WR g 6||Ys g 4 | 12=>WR g 6||Ys g 8 | 13=>WR g 6||Ys g 16 | 14=>WR g 7||Ys g 32
 | 15=>Ys g 0 | 16=>Ys g 4 | 17=>Ys g 8 | 18=>Ys g 16 | 19=>Ys g 32
 | 20=>(g.bits==8)
 | 21=>decide (8<g.bits)&&decide (-128<=g.n)&&decide (g.n<=127)
 | 22=>(g.bits==16) | 23=>(g.bits==32)
 | 24=>(g.bits==64)&&decide (-2147483648<=g.n)&&decide (g.n<=2147483647)
 | 25=>(g.bits==64)
 | 26=>(g.a.k==4)&&decide (-128<=g.a.n)&&decide (g.a.n<=127)
 | 27=>(g.a.k==4)
 | 28=>WR g 1&&(g.a.r.n==0) | 29=>WR g 3&&(g.a.r.n==0) | 30=>WR g 4&&(g.a.r.n==0) | 31=>WR g 5&&(g.a.r.n==0) | 32=>WR g 1&&(g.a.r.n==1)
 | 33=>decide (0<g.bits)&&(g.n==1)
 | 34=>Ys g 2
 | _=>false
def Qwh (H:Qa)(v:Value)(s:Nat):Prop:=∃ (f:FuncId) (aa:List Value),v=.func (.func f) #[] aa.toArray∧∀ (g:Gv) (H2:Qa),Ext H H2->Qe Pg f ([.agg g.cells.toArray]++aa) H2 λu H3=>u=.bool (QnB s g)∧Ext H2 H3
def QJ {f:FuncId}{s:Nat}(H:Qa)(q:∀ (g:Gv) (H:Qa),Qe Pg f [.agg g.cells.toArray] H λu H'=>u=.bool (QnB s g)∧∃m,H'=H.up m):Qwh H (.func (.func f) #[] #[]) s:=by
 refine⟨f,[],rfl,λg H2 _=>?_⟩;intro ae;obtain⟨v,H3,ab,aa,ac,ad,m,rfl⟩:=q g H2 ae;exact⟨v,_,ab,aa,ac,ad,(Ext.refl H2).up aa⟩
def Qf7 {H H':Qa}{p q:Nat}{c n:Int}{s:Nat}(hx:Ext H H')(ab:H.get p=some (.C [.Z c] 3))(ac:H.get q=some (.C [.Z n] 3))(ad:p<H.y)(ae:q<H.y)(e:∀g,QnB s g=(WR g c&&(g.a.r.n==n))):Qwh H' (.func (.func 185) #[] #[.P p,.P q]) s:=by
 refine⟨185,[.P p,.P q],rfl,λg H2 aa=>?_⟩;rw[e g];exact QHZ g c n p q H2 (by rw[(hx.trans aa).get _ ad];exact ab) (by rw[(hx.trans aa).get _ ae];exact ac)
def QH0 (H:Qa):Qe Pg 130 [] H λu H'=>∃ (b:Nat) (cs:List Value),u=.S b 35 35∧Ext H H'∧H.y<=b∧H'.get b=some (.C cs 204)∧cs.length=35∧∀s,s<35->∃v,cs[s]? = some v∧Qwh H' v s:=by
 refine Qr7 λaM=>?_;simp only[QiU,Qb,simprocAttr,JI,QaA];refine(QsG 1 0 H).w ?_;rintro _ H1 _ aN ⟨p0,r0,rfl,ab,an,au,aA,aF⟩;simp only[Qb,simprocAttr,QaA];refine(QsG 3 0 H1).w ?_;rintro _ H2 _ aO ⟨p1,r1,rfl,ac,ao,av,aB,aG⟩;simp only[Qb,simprocAttr,QaA];refine(QsG 4 0 H2).w ?_;rintro _ H3 _ aP ⟨p2,r2,rfl,ad,ap,ax,aC,aH⟩;simp only[Qb,simprocAttr,QaA];refine(QsG 5 0 H3).w ?_;rintro _ H4 _ aQ ⟨aS,r3,rfl,ae,aq,ay,aD,aI⟩;simp only[Qb,simprocAttr,QaA];refine(QsG 1 1 H4).w ?_;rintro _ H5 _ aR ⟨aT,r4,rfl,ag,ar,az,aE,aJ⟩;simp only[Qb,simprocAttr,JI];have aU:=ab;have ai:=(((ab.trans ac).trans ad).trans ae).trans ag;simp only[Qqf,Qf,simprocAttr];have ah:=ai.push;refine .mk (ah _).y ⟨H5.y,_,rfl,ah _,ai.y,by rw[Qc,Lc rfl],rfl,λs aL=>?_⟩;generalize aa:H5.push _=K;have am:Ext H5 K:=by rw[<- aa];exact(Ext.refl H5).push _
 clear aa;have al:=ag.trans am;have ak:=ae.trans al;have aj:=ad.trans ak;have aK:=ac.trans aj;rcases s with _ | _ | _ | _ | _ | _ | _ | _ | _ | _ | _ | _ | _ | _ | _ | _ | _ | _ | _ | _ | _ | _ | _ | _ | _ | _ | _ | _ | _ | _ | _ | _ | _ | _ | _ | s
 all_goals first
  | exact⟨_,rfl,QJ K (QOh _ _ (by decide))⟩
  | exact⟨_,rfl,QJ K (QN8 _ _ (by decide))⟩
  | exact⟨_,rfl,QJ K (QNT _ _ _ (by decide))⟩
  | exact⟨_,rfl,QJ K (QO1 _ _ (by decide))⟩
  | exact⟨_,rfl,QJ K (by first | exact QMv | exact QMw | exact QMC | exact QLH | exact QLK | exact QLM | exact QLN | exact QLO)⟩
  | exact⟨_,rfl,by first | exact Qf7 aK an au aA aF (λ_=>rfl) | exact Qf7 aj ao av aB aG (λ_=>rfl) | exact Qf7 ak ap ax aC aH (λ_=>rfl) | exact Qf7 al aq ay aD aI (λ_=>rfl) | exact Qf7 am ar az aE aJ (λ_=>rfl)⟩
  | omega
def QAH (aa:Int×Bool)(a:Ar):Gv:=if a.k=3 then⟨a,aa.1,(GM a.n aa.1 aa.2).1⟩ else⟨a,0,0⟩
def Qk6 (aa:Int×Bool)(a:Ar)(s:Int):Bool:=(!(a.k==3)||((GM a.n aa.1 aa.2).2==0))&&QnB s.toNat (QAH aa a)
def Qqs (f:Fm)(op:Int)(l:List Ar):Bool:=(f.op==op)&&(f.shapes.length==l.length)&&(QoN f==0)&&(Wl op l==0)&&(List.range l.length).all λi=>Qk6 (WI op l) (l.getD i WY) (f.shapes.getD i 0)
section
variable {x:Lf} {op:Int} {va:Value} {l:List Ar} {H:Qa}
abbrev KF (H:Qa)(r:Bool):Env->Qa->Prop:=Rt Pg Tryz.f104 H λv H'=>v=.bool r∧Ext H H'
structure FtF (H H':Qa) (x:Lf) (op:Int) (va:Value) (A:Env):Prop where
 xt:Ext H H'
 w:H'.Wf
 g2:H'.get H.y=some (.C x.cells 51)
 g3:H'.get (H.y+1)=some (.C [.Z op,va] 33)
 lt:H.y+2<=H'.y
 r2:A 2=.P H.y
 r3:A 3=.P (H.y+1)
def FtF.go {H' H'':Qa}{A B:Env}(h:FtF H H' x op va A)(hx:Ext H' H'')(aa:H''.Wf)(e2:B 2=A 2)(e3:B 3=A 3):FtF H H'' x op va B:=
 ⟨h.xt.trans hx,aa,by rw[hx.get _ (by have:=h.lt;omega)];exact h.g2,by rw[hx.get _ (by have:=h.lt;omega)];exact h.g3,by have:=h.lt;have:=hx.y;omega,e2.trans h.r2,e3.trans h.r3⟩
def QLP {W:Bool}{i tb p:Nat}{cs:List Value}{v:Value}{g:Gv}{H0:Qa}{A:Env}{H1:Qa}{E:Nat->Env->Qa->Prop}{K:Env->Qa->Prop}(aq:H.Wf)(hx:x.At H)(ai:FtF H H1 x op va A)(hi:i<x.f.shapes.length)(aD:1<=x.f.shapes.getD i 0∧x.f.shapes.getD i 0<=34)(ay:A 7=.S tb 35 35)(r8:A 8=.Z i)(an:H1.get tb=some (.C cs 204))(ak:cs[(x.f.shapes.getD i 0).toNat]? = some v)(aj:Qwh H0 v (x.f.shapes.getD i 0).toNat)(ag:Ext H0 H1)(ax:A 10=.P p)(al:H1.get p=some (.C g.cells 201))(ae:QnB (x.f.shapes.getD i 0).toNat g=false->W=false)
  (ah:QnB (x.f.shapes.getD i 0).toNat g=true->∀ (B:Env) (H2:Qa),Ext H1 H2->H2.Wf->B 2=A 2->B 3=A 3->B 5=A 5->B 6=A 6->B 7=A 7->B 42=A 42->B 43=A 43->B 44=A 44->K B H2):
  Qk Pg Qa3 ⟨KF H W,E⟩ K A H1:=by
 obtain⟨aa,aE,g2,g3,aB,r2,r3⟩:=id ai;obtain⟨a1,c1,e1,av⟩:=id hx.2.2.1;have az:x.cells[1]? = some (.slice a1 x.f.shapes.length c1):=by rw[<- e1];rfl
 obtain⟨b,e,ro,rfl,ac⟩:=av (by omega);have am:H1.get b=some (.cells (ints x.f.shapes) e ro):=by rw[aa.get b (aq.lt ac)];exact ac
 have d1:(0:Int)<=i∧(i:Int)<x.f.shapes.length:=by omega
 have d3:(i:Int).toNat=i:=by omega
 have ap:(ints x.f.shapes)[i]? = some (.Z (x.f.shapes.getD i 0)):=by
  simp[ints,La hi]
 generalize x.f.shapes.getD i 0=s at *;have d4:(0:Int)<=s∧s<((35:Nat):Int):=by omega
 have ad:g.cells.take 13=g.cells:=rfl;have au:13<=g.cells.length:=Lb _;obtain⟨f,aA,rfl,ao⟩:=aj;simp only[Qa3,sxA,sxB,Nat.reduceBEq,Nat.reduceEqDiff,reduceCtorEq,mxA,mxB,Nat.reduceAdd,reduceIte,Nat.reduceLeDiff,splice,r2,ay,r8,ax,g2,az,am,d1,d3,ap,an,d4,ak,al,ad,QBj];refine⟨au,?_⟩;refine(show Qe Pg f (.agg g.cells.toArray::aA) H1 _ from ao g H1 ag).w ?_;rintro _ H2 aC ar ⟨rfl,ab⟩;cases c:QnB s.toNat g with
 | false=>
  simp only[Qb,simprocAttr,XL];exact .mk (aa.trans ab).y ⟨by rw[ae c],aa.trans ab⟩
 | true=>
  simp only[Qb,simprocAttr];refine ah c _ H2 ab ar ?_ ?_ ?_ ?_ ?_ ?_ ?_ ?_
  all_goals simp only[Qf,simprocAttr]
def QMD (aD:H.Wf)(hx:x.At H)(aK:QQ H va l)(bF:l.length<=1000)(b6:∀a∈l,I64 a.n)(bI:QoN x.f=0)(bR:x.f.shapes.length=l.length){W:Bool}(aG:W=(List.range l.length).all λi=>Qk6 (WI op l) (l.getD i WY) (x.f.shapes.getD i 0)){A:Env}{H1:Qa}(aJ:FtF H H1 x op va A):
  Qk Pg Qa4 ⟨KF H W,Xi⟩ (KF H W) A H1:=by
 obtain⟨bK,bZ,g2,g3,bT,r2,r3⟩:=id aJ;obtain⟨a0,cap,rfl⟩:=Wd aK;simp only[Qa4,Qb,simprocAttr,r3,g3,List.take];refine(QdP op _ l H1 (aK.ext aD bK) bF).w ?_;rintro _ _ bH ca ⟨rfl,k,rfl⟩;have bh:Ext H1 (H1.up k):=(Ext.refl H1).up bH;obtain⟨aa,bu⟩:∃aa,aa=WI op l:=⟨_,rfl⟩;rw[<- bu]at aG ⊢;simp only[Qb,simprocAttr];refine(QH0 (H1.up k)).w ?_;rintro _ H3 bU aO ⟨tb,cs,rfl,bi,bY,aN,bQ,b8⟩;obtain⟨cb,_,bP,bz,bV,_,_⟩:=aJ.go (bh.trans bi) aO (B:=A) rfl rfl;have bj:=aO.lt aN;simp only[Qb,simprocAttr,r3,bz];refine Qp (λm A' H'=>∃i:Nat,i<=l.length∧m=l.length - i∧FtF H H' x op (.slice a0 l.length cap) A'∧Ext H3 H'∧A' 5=.Z aa.1∧A' 6=.bool aa.2∧A' 7=.S tb 35 35∧A' 42=.slice a0 l.length cap∧A' 43=.Z l.length∧A' 44=.Z i∧∀j,j<i->Qk6 aa (l.getD j WY) (x.f.shapes.getD j 0)=true) l.length ?_ ?_
 ·refine⟨0,L7 _,by omega,aJ.go (bh.trans bi) aO ?_ ?_,Ext.refl _,?_,?_,?_,?_,?_,?_,λj h=>by omega⟩
  all_goals simp only[Qf,simprocAttr]
  all_goals rfl
 rintro m A' H' ⟨i,hi,rfl,aB,ar,aR,bp,aS,bn,bo,aF,aV⟩;obtain⟨au,bJ,bN,bO,bS,cc,cd⟩:=id aB;simp only[Qhv,Qb,simprocAttr,bo,aF];refine Qg (λac=>?_) (λac=>?_)
 ·have ac:i<l.length:=by have:=Lg ac;omega
  obtain⟨a,aL⟩:∃a,l[i]? = some a:=⟨_,La ac⟩;obtain⟨bL,bM,e0,b4⟩:=aK;cases e0;obtain⟨b,e,ro,rfl,aX⟩:=b4 (by omega);have bC:H'.get b=some (.cells (Qm l) e ro):=by rw[au.get b (aD.lt aX)];exact aX
  have ba:=X4 l i a aL;have bG:i * 11+11<=(Qm l).length:=by rw[Q7];omega
  have d1:(0:Int)<=i∧(i:Int)<l.length:=by omega
  have d3:(i:Int).toNat=i:=by omega
  have bA:l.getD i WY=a:=by rw[LX,aL];rfl
  have b7:I64 a.n:=b6 a (Ln aL);have bm:=Qau a.n aa.1 aa.2 b7;have ab:Qk6 aa (l.getD i WY) (x.f.shapes.getD i 0)=((!(a.k==3)||((GM a.n aa.1 aa.2).2==0))&&QnB (x.f.shapes.getD i 0).toNat (QAH aa a)):=by rw[bA];rfl
  have aZ:=QDf bI i (by omega);obtain⟨an,aH⟩:∃an,an=QAH aa a:=⟨_,rfl⟩;rw[<- aH]at ab;obtain⟨am,⟨ay,az⟩,⟨⟨ap,aq⟩,⟨av,ax⟩,sc,d,sz⟩,n⟩:=a;simp only[Ar.cells]at ba;simp only at ab bm;simp only[Qhu,Qb,simprocAttr,bn,aF,d1,d3,bC,ba];refine⟨bG,?_⟩;generalize ao:(Qa.set (Qa.push (Qa.set (Qa.push H' _) _ _) _) _ _)=H4;have ad:Ext H' H4:=by
   rw[<- ao];refine Ext.set (Ext.push (Ext.set (Ext.push (Ext.refl H') _) ?_ _) _) ?_ _
   all_goals omega
  have bd:H4.Wf:=by
   rw[<- ao];refine Qa.Wf.set (b0:=.C [.Z 0,.Z 0,.Z 0,.Z 0,.Z 0,.Z 0,.Z 0,.Z 0,.Z 0,.Z 0,.Z 0,.Z 0,.Z 0] 201) (Qa.Wf.push (bJ.push _ |>.set (b0:=.C [.Z 0,.Z 0,.Z 0,.Z 0,.Z 0,.Z 0,.Z 0,.Z 0,.Z 0,.Z 0,.Z 0] 95) (by rw[Qc,Lc rfl]) _) _) (by rw[Qc];exact Lc rfl) _
  have b2:H4.get H'.y=some (.C [.Z am,.Z ay,.Z az,.Z ap,.Z aq,.Z av,.Z ax,.Z sc,.Z d,.Z sz,.Z n] 95):=by
   rw[<- ao,Qh,Le (by omega),Qc,Le (by simp only[Qo,Qd];omega),Qh,Lc rfl]
  have aI:H4.get (H'.y+1)=some (.C [.Z am,.Z ay,.Z az,.Z ap,.Z aq,.Z av,.Z ax,.Z sc,.Z d,.Z sz,.Z n,.Z 0,.Z 0] 201):=by
   rw[<- ao,Qh,Lc rfl]
  have bW:H'.y+2<=H4.y:=by rw[<- ao];simp only[Qo,Qd];omega
  clear ao;have aW:∀ (B:Env) (H5:Qa),Qk6 aa (l.getD i WY) (x.f.shapes.getD i 0)=true->Ext H' H5->H5.Wf->B 2=A' 2->B 3=A' 3->B 5=A' 5->B 6=A' 6->B 7=A' 7->B 42=A' 42->B 43=A' 43->B 44=.Z ((i+1:Nat):Int)->Quj (λm A' H'=>∃i:Nat,i<=l.length∧m=l.length - i∧FtF H H' x op (.S b l.length cap) A'∧Ext H3 H'∧A' 5=.Z aa.1∧A' 6=.bool aa.2∧A' 7=.S tb 35 35∧A' 42=.S b l.length cap∧A' 43=.Z l.length∧A' 44=.Z i∧∀j,j<i->Qk6 aa (l.getD j WY) (x.f.shapes.getD j 0)=true) (l.length - i) B H5:=by
   intro B H5 b9 e1 e2 p2 ae aj ak al ag ah ai;refine⟨l.length - (i+1),by omega,i+1,by omega,rfl,aB.go e1 e2 p2 ae,ar.trans e1,aj.trans aR,ak.trans bp,al.trans aS,ag.trans bn,ah.trans bo,ai,λj aY=>?_⟩
   by_cases h:j=i;·rw[h];exact b9
   exact aV j (by omega)
  have aT:IntKind.i64.wrap ((i:Int)+1)=((i+1:Nat):Int):=by rw[w64 (by unfold I64;omega)];omega
  have aM:Qk6 aa (l.getD i WY) (x.f.shapes.getD i 0)=false->W=false:=λh=>by rw[aG];exact KW ac h
  obtain⟨tv,bc,aU⟩:=b8 (x.f.shapes.getD i 0).toNat (by omega);have b5:∀B:Env,B 2=A' 2->B 3=A' 3->FtF H H4 x op (.S b l.length cap) B:=λB e2 e3=>aB.go ad bd e2 e3;have bD:H4.get tb=some (.C cs 204):=((ar.trans ad).get tb bj).trans aN;cases c:am==3 with
  | false=>
   have aA:an=⟨⟨am,⟨ay,az⟩,⟨⟨ap,aq⟩,⟨av,ax⟩,sc,d,sz⟩,n⟩,0,0⟩:=by rw[aH,QAH,Le (by simpa using c)]
   rw[c,LM,N1,LJ]at ab;simp only[Qb,simprocAttr];refine QLP (H0:=H3) (g:=an) (p:=H'.y+1) (i:=i) aD hx (b5 _ ?_ ?_) (by omega) aZ (tb:=tb) (cs:=cs) (v:=tv) ?_ ?_ bD bc aU (ar.trans ad) ?_ (by rw[aA];exact aI) (λh=>aM (ab.trans h)) ?_
   all_goals (try (simp only[Qf,simprocAttr,aS];done))
   intro h B H5 e1 e2 p2 ae aj ak al ag ah ai;simp only[Qf,simprocAttr]at p2 ae aj ak al ag ah ai;simp only[Qb,simprocAttr,ai,aF,aT];refine aW _ H5 (ab.trans h) (ad.trans e1) e2 ?_ ?_ ?_ ?_ ?_ ?_ ?_ ?_
   all_goals simp only[Qf,simprocAttr,p2,ae,aj,ak,al,ag,ah]
  | true=>
   have aA:an=⟨⟨am,⟨ay,az⟩,⟨⟨ap,aq⟩,⟨av,ax⟩,sc,d,sz⟩,n⟩,aa.1,(GM n aa.1 aa.2).1⟩:=by rw[aH,QAH,Lc (by simpa using c)]
   rw[c,L8,Nt]at ab;simp only[Qht,Qb,simprocAttr,b2,aR,bp];refine(bm H4).w ?_;rintro _ H4' bX bg ⟨rfl,bq⟩;rw[bq];obtain⟨aP,bw⟩:∃aP,aP=(GM n aa.1 aa.2).1:=⟨_,rfl⟩;obtain⟨aQ,bx⟩:∃aQ,aQ=(GM n aa.1 aa.2).2:=⟨_,rfl⟩;rw[<- bw]at aA ⊢;rw[<- bx]at ab ⊢;simp only[Qb,simprocAttr];cases c2:aQ==0 with
   | false=>
    simp only[Qb,simprocAttr,XL];exact .mk (au.trans ad).y ⟨by rw[aM (by rw[ab,c2];rfl)],au.trans ad⟩
   | true=>
    rw[c2,LJ]at ab;simp only[Qb,simprocAttr,aR,aI];generalize aC:Qa.set (Qa.set H4 _ _) _ _=H6;have aE:Ext H' H6:=by
     rw[<- aC];refine Ext.set (Ext.set ad ?_ _) ?_ _
     all_goals omega
    have bg:H6.Wf:=by
     rw[<- aC];exact Qa.Wf.set (b0:=.C _ 201) (Qa.Wf.set bd aI _) (by rw[Qh,Lc rfl]) _
    have b3:H6.get (H'.y+1)=some (.C [.Z am,.Z ay,.Z az,.Z ap,.Z aq,.Z av,.Z ax,.Z sc,.Z d,.Z sz,.Z n,.Z aa.1,.Z aP] 201):=by
     rw[<- aC,Qh,Lc rfl]
    clear aC;have bE:H6.get tb=some (.C cs 204):=((ar.trans aE).get tb bj).trans aN;refine QLP (H0:=H3) (g:=an) (p:=H'.y+1) (i:=i) aD hx (aB.go aE bg ?_ ?_) (by omega) aZ (tb:=tb) (cs:=cs) (v:=tv) ?_ ?_ bE bc aU (ar.trans aE) ?_ (by rw[aA];exact b3) (λh=>aM (ab.trans h)) ?_
    all_goals (try (simp only[Qf,simprocAttr,aS];done))
    intro h B H5 e1 e2 p2 ae aj ak al ag ah ai;simp only[Qf,simprocAttr]at p2 ae aj ak al ag ah ai;simp only[Qb,simprocAttr,ai,aF,aT];refine aW _ H5 (ab.trans h) (aE.trans e1) e2 ?_ ?_ ?_ ?_ ?_ ?_ ?_ ?_
    all_goals simp only[Qf,simprocAttr,p2,ae,aj,ak,al,ag,ah]
 have ac:i=l.length:=by have:=Ll ac;omega
 subst ac;have br:W=true:=by rw[aG];exact Vy λj aY=>aV j aY
 simp only[Qb,simprocAttr,XL];exact .mk au.y ⟨by rw[br],au⟩
def QME (ac:H.Wf)(hx:x.At H)(ao:x.Fr 0)(ai:QQ H va l)(aj:l.length<=1000)(ah:∀a∈l,I64 a.n)(ap:x.f.shapes.length=l.length){W:Bool}(aa:W=((QoN x.f==0)&&(Wl op l==0)&&(List.range l.length).all λi=>Qk6 (WI op l) (l.getD i WY) (x.f.shapes.getD i 0))){A:Env}{H1:Qa}(ab:FtF H H1 x op va A):
  Qk Pg Qa5 ⟨KF H W,Xi⟩ (KF H W) A H1:=by
 obtain⟨ad,aB,g2,g3,az,r2,r3⟩:=id ab;have al:x.cells.take 10=x.cells:=rfl;have ax:10<=x.cells.length:=Lb _;simp only[Qa5,Qb,simprocAttr,r2,g2,al];refine⟨ax,?_⟩;refine(QtN x H1 (hx.ext ac ad) ao).w ?_;rintro _ _ aq au ⟨rfl,k,rfl⟩;have ak:Ext H1 (H1.up k):=(Ext.refl H1).up aq;obtain⟨ae,_,ay,am,aA,_,_⟩:=ab.go ak au rfl rfl;cases c:QoN x.f==0 with
 | false=>
  simp only[Qb,simprocAttr,c,XL];exact .mk ae.y ⟨by rw[aa,c];rfl,ae⟩
 | true=>
  simp only[Qb,simprocAttr,r3,am,c,List.take];refine(Qb2 op va l _ (ai.ext ac ae) aj ah).w ?_;rintro _ _ ar av ⟨rfl,k2,rfl⟩;have ag:Ext H1 ((H1.up k).up k2):=ak.up ar;have an:∀B:Env,B 2=A 2->B 3=A 3->FtF H ((H1.up k).up k2) x op va B:=λB e2 e3=>ab.go ag av e2 e3;cases c2:Wl op l==0 with
  | false=>
   simp only[Qb,simprocAttr,c2,XL];exact .mk (ad.trans ag).y ⟨by rw[aa,c,c2];rfl,ad.trans ag⟩
  | true=>
   simp only[Qb,simprocAttr,c2];refine QMD ac hx ai aj ah (L0.1 c) ap (by rw[aa,c,c2];rfl) (an _ ?_ ?_)
   all_goals simp only[Qf,simprocAttr]
end
def Qwi {x:Lf}{op:Int}{va:Value}{l:List Ar}(H:Qa)(hx:x.At H)(ao:x.Fr 0)(ah:QQ H va l)(ap:l.length<=1000)(an:∀a∈l,I64 a.n):
  Qe Pg 104 [.agg x.cells.toArray,.agg #[.Z op,va]] H λv H'=>v=.bool (Qqs x.f op l)∧Ext H H':=by
 refine Qtr λaj=>?_;have al:(Value.agg x.cells.toArray).cells.toList=x.cells:=rfl;have ay:x.cells.take 10=x.cells:=rfl;have av:x.cells[0]? = some (.Z x.f.op):=rfl;have aA:10<=x.cells.length:=Lb _;obtain⟨a1,c1,e1⟩:=Wd hx.2.2.1;have ax:x.cells[1]? = some (.slice a1 x.f.shapes.length c1):=by rw[<- e1];rfl
 obtain⟨W,ad⟩:∃W,W=Qqs x.f op l:=⟨_,rfl⟩;rw[<- ad];obtain⟨a0,cap,rfl⟩:=Wd ah;simp only[QkB,al,Wu,simprocAttr];generalize ab:Qa.push H (.C x.cells 51)=H1;have g1:H1.get H.y=some (.C x.cells 51):=by rw[<- ab,Qc,Lc rfl]
 have au:Ext H H1:=by rw[<- ab];exact(Ext.refl H).push _
 have ai:H1.y=H.y+1:=by rw[<- ab];rfl
 have aq:H1.Wf:=by rw[<- ab];exact aj.push _
 clear ab;simp only[Qb,simprocAttr,ai];generalize aa:Qa.push H1 _=H2;have ac:Ext H H2:=by rw[<- aa];exact(au.push _)
 have ar:H2.Wf:=by rw[<- aa];exact(aq.push _)
 have ag:H2.get H.y=some (.C x.cells 51):=by rw[<- aa,Qc,Le (by omega)];exact g1
 have ae:H2.get (H.y+1)=some (.C [.Z op,.slice a0 l.length cap] 33):=by rw[<- aa,Qc,Lc (by omega)]
 have az:H2.y=H.y+2:=by rw[<- aa,Qd,ai]
 clear aa;simp only[Qb,simprocAttr,g1,ae,av];have am:∀A:Env,A 2=.P H.y->A 3=.P (H.y+1)->FtF H H2 x op (.slice a0 l.length cap) A:=λA e2 e3=>⟨ac,ar,ag,ae,by omega,e2,e3⟩;cases c1:x.f.op==op with
 | false=>
  simp only[Qb,simprocAttr,XL];exact .mk ac.y ⟨by rw[ad,Qqs,c1];rfl,ac⟩
 | true=>
  simp only[Qb,simprocAttr,ag,ae,ax];have ak:((x.f.shapes.length:Int)==(l.length:Int))=(x.f.shapes.length==l.length):=by
   rw[Ni,L0,L0];omega
  rw[ak];cases c2:x.f.shapes.length==l.length with
  | false=>
   simp only[Qb,simprocAttr,XL];exact .mk ac.y ⟨by rw[ad,Qqs,c1,c2];rfl,ac⟩
  | true=>
   simp only[Qb,simprocAttr];refine QME aj hx ao ah ap an (L0.1 c2) (by rw[ad,Qqs,c1,c2];rfl) (am _ ?_ ?_)
   all_goals simp only[Qf,simprocAttr]
def tlN (f:Fm):Int:=if 0<=Qy f.slots 7 then tlF f - 1 else tlF f
def QH1 (f:Fm)(op:Int)(l:List Ar):Int:=if(l[(Qy f.slots 5).toNat]?.getD WY).k=3 then(GM (l[(Qy f.slots 5).toNat]?.getD WY).n (WI op l).1 (WI op l).2).1 else(l[(Qy f.slots 5).toNat]?.getD WY).n
def isB (n:Int):Int:=IntKind.u8.wrap (IntKind.i64.wrap (16 * n))
def QbS (f:Fm)(op:Int)(l:List Ar):List Int:=(if 0<=Qy f.slots 5 then(Qak (QH1 f op l) (tlN f)).1 else[])++(if 0<=Qy f.slots 7 then[isB (l[(Qy f.slots 7).toNat]?.getD WY).r.n] else[])
def QBM (n sz:Int):(Qak n sz).1.length<=1000:=by
 unfold Qak;split;·simp
 split;·simp
 rename_i h _;have h:QeP sz=true:=by simpa using h
 unfold QeP at h;simp only[Nw,L0]at h;simp only[QlW,Nn,BO];omega
section
variable {x:Lf} {op:Int} {va:Value} {l:List Ar} {H:Qa}
abbrev KT (H:Qa)(W:List Int):Env->Qa->Prop:=Rt Pg Tryz.f132 H λv H'=>Gx 1 5 H H' v W.length (bys W)∧Ext H H'
def QLQ (au:H.Wf)(am:QQ H va l)(av:l.length<=1000){W w:List Int}{s:Int}(ax:s<l.length)(ay:w.length<=1000)(aa:W=w++(if 0<=s then[isB (l[s.toNat]?.getD WY).r.n] else[])){A:Env}{H1:Qa}{v:Value}(ab:Ext H H1)(ah:H1.Wf)(g3:H1.get (H.y+1)=some (.C [.Z op,va] 33))(r3:A 3=.P (H.y+1))(ai:A 5=v)(aj:A 7=.Z s)(ag:Gx 1 5 H H1 v w.length (bys w)):
  Qk Pg JE ⟨KT H W,Xi⟩ (KT H W) A H1:=by
 obtain⟨a0,cap,rfl,al⟩:=am;simp only[JE,Qb,simprocAttr,aj];refine Qg (λh=>?_) (λh=>?_)
 ·have ak:0<=s:=Lg h;rw[Lc ak]at aa;obtain⟨i,rfl⟩:∃i:Nat,s=i:=⟨s.toNat,by omega⟩;have ap:i<l.length:=by omega
  obtain⟨a,ac⟩:∃a,l[i]? = some a:=⟨_,La ap⟩;obtain⟨b,e,ro,rfl,ad⟩:=al (by omega);have an:H1.get b=some (.cells (Qm l) e ro):=by rw[ab.get b (au.lt ad)];exact ad
  have aq:=QpO ac;have d1:(0:Int)<=i∧(i:Int)<l.length:=by omega
  have d3:(i:Int).toNat=i:=by omega
  have ao:(l[(i:Int).toNat]?.getD WY).r.n=a.r.n:=by rw[d3,ac];rfl
  rw[ao]at aa;simp only[QfA,Qb,simprocAttr,r3,ai,aj,g3,d1,d3,an,aq];refine Qdk (ms:=[.int .u8 (isB a.r.n)]) (m:=1) (ag.go ah ((Ext.refl H1).push _)) (ab.push _) (ah.push _) (Qw7 (by rw[Qc,Lc rfl];rfl)) rfl rfl (by omega) (by omega) ?_;intro az H2 ar ae;simp only[Qb,simprocAttr,Qhw];have e2:W.length=w.length+1:=by rw[aa,Lh,Bb]
  have e3:bys W=bys w++[.int .u8 (isB a.r.n)]:=by rw[aa,bys,bys,N6];rfl
  exact .mk ae.x.y ⟨by rw[e2,e3];exact ar,ae.x⟩
 rw[Le (by have:=Ll h;omega),Na]at aa;simp only[Qb,simprocAttr,ai,Qhw];exact .mk ab.y ⟨by rw[aa];exact ag,ab⟩
def QLR (ac:H.Wf)(hx:x.At H)(ag:QQ H va l)(ak:l.length<=1000)(aA:∀a∈l,I64 a.n)(aZ:x.f.slots.length=l.length){W:List Int}(ab:W=QbS x.f op l){A:Env}{H1:Qa}(am:FtF H H1 x op va A)(aW:A 5=.slice none 0 0)(aq:A 6=.Z (tlN x.f))(ar:A 7=.Z (Qy x.f.slots 7)):
  Qk Pg Qaf ⟨KT H W,Xi⟩ (KT H W) A H1:=by
 obtain⟨aO,bh,g2,g3,ba,r2,r3⟩:=id am;have au:x.cells.take 10=x.cells:=rfl;have aR:10<=x.cells.length:=Lb _;have aI:=Qyj x.f.slots 5;have aY:=Qyj x.f.slots 7;unfold QbS at ab;simp only[Qaf,Qb,simprocAttr,r2,g2,au];refine⟨aR,?_⟩;refine(QH x 5 H1 (hx.ext ac aO)).w ?_;rintro _ _ aJ al ⟨rfl,k,rfl⟩;have aP:Ext H1 (H1.up k):=(Ext.refl H1).up aJ;obtain⟨ad,_,aX,ae,bc,_,_⟩:=am.go aP al rfl rfl;simp only[Qb,simprocAttr];refine Qg (λh=>?_) (λh=>?_)
 ·have ay:0<=Qy x.f.slots 5:=Lg h;rw[Lc ay]at ab;have aa:QH1 x.f op l=if(l[(Qy x.f.slots 5).toNat]?.getD WY).k=3 then(GM (l[(Qy x.f.slots 5).toNat]?.getD WY).n (WI op l).1 (WI op l).2).1 else(l[(Qy x.f.slots 5).toNat]?.getD WY).n:=rfl
  obtain⟨i,hi⟩:∃i:Nat,Qy x.f.slots 5=i:=⟨(Qy x.f.slots 5).toNat,by omega⟩;rw[hi]at aI aa ⊢;have aF:i<l.length:=by omega
  obtain⟨a,ah⟩:∃a,l[i]? = some a:=⟨_,La aF⟩;have d1:(0:Int)<=i∧(i:Int)<l.length:=by omega
  have d3:(i:Int).toNat=i:=by omega
  have aE:l[(i:Int).toNat]?.getD WY=a:=by rw[d3,ah];rfl
  rw[aE]at aa;have aj:I64 a.n:=aA a (Ln ah);have aC:=QrK a.n (WI op l).1 (WI op l).2 aj;have aV:=Qau a.n (WI op l).1 (WI op l).2 aj;have aU:=λH' (hx:Ext H H')=>QdP op va l H' (ag.ext ac hx) ak;obtain⟨a0,cap,rfl,az⟩:=id ag;obtain⟨b,e,ro,rfl,an⟩:=az (by omega);have aD:(H1.up k).get b=some (.cells (Qm l) e ro):=by rw[ad.get b (ac.lt an)];exact an
  have aG:(Qm l)[i * 11]? = some (.Z a.k):=by
   have:=X4 l i a ah;have h:=congrArg (λz=>z[0]?) this;simpa[Ar.cells,Nl,Nk] using h
  have aH:(Qm l)[i * 11+10]? = some (.Z a.n):=by
   have:=X4 l i a ah;have h:=congrArg (λz=>z[10]?) this;simpa[Ar.cells,Nl,Nk] using h
  generalize H1.up k=H2 at *;simp only[QfC,Qb,simprocAttr,r3,ae,d1,d3,aD,aG,aH];obtain⟨N,ax⟩:∃N,N=QH1 x.f op l:=⟨_,rfl⟩;rw[<- ax]at aa ab;have aB:I64 N:=by
   rw[aa];split;·exact aC
   exact aj
  have ai:∀ (B:Env) (H5:Qa),Ext H2 H5->H5.Wf->B 3=A 3->B 7=A 7->Qe Pg 218 [.Z N,.Z (tlN x.f)] H5 (Qpk Pg [Om 49 (t 52),Ow 53 (.ext (t 49) 0),Ow 54 (.ext (t 49) 1),Om 5 (t 53)] (Qk Pg JE ⟨KT H W,Xi⟩ (KT H W)) B (some 52)):=by
   intro B H5 e1 e2 aS aT;refine(QpN N (tlN x.f) aB H5).w ?_;rintro _ H6 bg aN ⟨v,rfl,aM,ap⟩;simp only[Qb,simprocAttr];have aQ:=(ad.trans e1).trans ap;have aL:=(ad.trans e1).y;refine QLQ ac ag ak (by omega) (QBM N (tlN x.f)) ab (v:=v) aQ aN (by rw[(e1.trans ap).get _ (by omega)];exact ae) ?_ ?_ ?_ (aM.down aL)
   all_goals simp only[Qf,simprocAttr,aS,aT,r3,ar]
  cases c:a.k==3 with
  | false=>
   rw[Le (by simpa using c)]at aa;rw[aa]at ai;simp only[Qb,simprocAttr,aq];refine ai _ H2 (Ext.refl _) al ?_ ?_
   all_goals simp only[Qf,simprocAttr]
  | true=>
   rw[Lc (by simpa using c)]at aa;simp only[QfB,Qb,simprocAttr,r3,ae,List.take];refine(aU H2 ad).w ?_;rintro _ _ aK bi ⟨rfl,k4,rfl⟩;simp only[Qb,simprocAttr];refine(aV _).w ?_;rintro _ H5 bd ao ⟨rfl,av⟩;rw[av]at ao ⊢;rw[aa]at ai;simp only[Qb,simprocAttr,aq];refine ai _ _ (show Ext H2 (H2.up k4) from(Ext.refl H2).up aK) ao ?_ ?_
   all_goals simp only[Qf,simprocAttr]
 rw[Le (by have:=Ll h;omega),LH]at ab;simp only[Qb,simprocAttr];refine QLQ ac ag ak (w:=[]) (by omega) (by simp) ab (v:=.slice none 0 0) ad al ae ?_ ?_ ?_ (.inl ⟨rfl,rfl,rfl⟩)
 all_goals simp only[Qf,simprocAttr,r3,aW,ar]
end
def QFl {x:Lf}{H:Qa}(ae:H.Wf)(hx:x.At H)(aa:x.Fr 0)(m:Nat)(ad:H.y<=m):Qj m 6 (.agg x.cells.toArray)=true:=by
 have ab:=QjP ae aa.1 hx.2.2.1 m ad 4;have ac:=QjP ae aa.2 hx.2.2.2 m ad 4;simp only[Nat.reduceAdd]at ab ac;obtain⟨f,ag,ah⟩:=x;have e1:SlF 0 ag f.shapes:=aa.1;have e2:SlF 0 ah f.slots:=aa.2;clear hx aa;simp only[Lf.cells]at *;rcases e1 with⟨_,rfl⟩ | ⟨_,b1,c1,rfl,_,_⟩<;>rcases e2 with⟨_,rfl⟩ | ⟨_,ai,c2,rfl,_,_⟩
 all_goals (simp only[Qj]at ab ac;simp[Qj,Ab.plain,ab,ac])
def QtO {x:Lf}{op:Int}{va:Value}{l:List Ar}(H:Qa)(hx:x.At H)(aD:x.Fr 0)(ag:QQ H va l)(an:l.length<=1000)(am:∀a∈l,I64 a.n)(ao:x.f.slots.length=l.length):
  Qe Pg 132 [.agg x.cells.toArray,.agg #[.Z op,va]] H λv H'=>Gx 1 5 H H' v (QbS x.f op l).length (bys (QbS x.f op l))∧Ext H H':=by
 refine Qr8 λab=>?_;have ax:(Value.agg x.cells.toArray).cells.toList=x.cells:=rfl;have aj:x.cells.take 10=x.cells:=rfl;have au:10<=x.cells.length:=Lb _;obtain⟨W,ae⟩:∃W,W=QbS x.f op l:=⟨_,rfl⟩;rw[<- ae];obtain⟨a0,cap,rfl⟩:=Wd ag;simp only[QiV,ax,Wu,simprocAttr];generalize ac:Qa.push H (.C x.cells 51)=H1;have g1:H1.get H.y=some (.C x.cells 51):=by rw[<- ac,Qc,Lc rfl]
 have aH:Ext H H1:=by rw[<- ac];exact(Ext.refl H).push _
 have ap:H1.y=H.y+1:=by rw[<- ac];rfl
 have aF:H1.Wf:=by rw[<- ac];exact ab.push _
 clear ac;simp only[Qb,simprocAttr,ap];generalize aa:Qa.push H1 _=H2;have ah:Ext H H2:=by rw[<- aa];exact(aH.push _)
 have aL:H2.Wf:=by rw[<- aa];exact(aF.push _)
 have ay:H2.get H.y=some (.C x.cells 51):=by rw[<- aa,Qc,Le (by omega)];exact g1
 have az:H2.get (H.y+1)=some (.C [.Z op,.slice a0 l.length cap] 33):=by rw[<- aa,Qc,Lc (by omega)]
 have aJ:H2.y=H.y+2:=by rw[<- aa,Qd,ap]
 clear aa;simp only[Qb,simprocAttr,g1,aj];refine⟨au,by omega,?_⟩;refine(Qnu x H2 (hx.ext ab ah)).w ?_;rintro _ _ aq aM ⟨rfl,k,rfl⟩;have ai:Ext H2 (H2.up k):=(Ext.refl H2).up aq;refine⟨ai.eqB,?_⟩;have ak:(H2.up k).get H.y=some (.C x.cells 51):=by rw[Xo];exact ay
 have aA:(H2.up k).get (H.y+1)=some (.C [.Z op,.slice a0 l.length cap] 33):=by rw[Xo];exact az
 have aI:H2.y<=k:=aq;simp only[Qb,simprocAttr,ak,aj];refine⟨au,QFl ab hx aD k (by omega),?_⟩;refine(QH x 7 _ (hx.ext ab (ah.trans ai))).w ?_;rintro _ _ aE aG ⟨rfl,k2,rfl⟩;have ar:Ext H2 ((H2.up k).up k2):=ai.up aE;have al:∀B:Env,B 2=.P H.y->B 3=.P (H.y+1)->FtF H ((H2.up k).up k2) x op (.slice a0 l.length cap) B:=λB e2 e3=>⟨ah.trans ar,aG,by rw[Xo];exact ak,by rw[Xo];exact aA,by have:=ar.y;omega,e2,e3⟩;have aK:=Qsu x.f;have aC:tlF x.f=bif decide (0<=Qy x.f.slots 7) then tl1 x.f+1 else tl1 x.f:=rfl
 simp only[Qb,simprocAttr];refine Qg (λh=>?_) (λh=>?_)
 ·have aB:0<=Qy x.f.slots 7:=Lg h;have ad:tlN x.f=tlF x.f - 1:=Lc aB;rw[h,Lq]at aC;have av:IntKind.i64.wrap (tlF x.f - 1)=tlN x.f:=by rw[ad,w64 (by unfold I64;omega)]
  simp only[Qb,simprocAttr,av];refine QLR ab hx ag an am ao ae (al _ ?_ ?_) ?_ ?_ ?_
  all_goals simp only[Qf,simprocAttr]
 have ad:tlN x.f=tlF x.f:=Le (by have:=Ll h;omega);simp only[Qb,simprocAttr];refine QLR ab hx ag an am ao ae (al _ ?_ ?_) ?_ ?_ ?_
 all_goals simp only[Qf,simprocAttr,ad]
def QKk (f:Fm)(l:List Ar):Int:=if 0<=Qy f.slots 1 then Xz (l[(Qy f.slots 1).toNat]?.getD WY).r else f.digit
def Yu (f:Fm)(l:List Ar):List Ld:=
 if Qy f.slots 2<0 then[⟨[],0,0⟩]
 else if((Qqt (QKk f l) (l[(Qy f.slots 2).toNat]?.getD WY)).2==0)=true then(Qqt (QKk f l) (l[(Qy f.slots 2).toNat]?.getD WY)).1 else[]
section
variable {x:Lf} {op:Int} {va:Value} {l:List Ar} {H:Qa}
abbrev KP (H:Qa)(W:List Ld):Env->Qa->Prop:=Rt Pg Tryz.f133 H λv H'=>XZ 210 H H' v W∧Ext H H'
def QLS (an:H.Wf)(ai:QQ H va l){W:List Ld}{mid:Int}{i:Nat}{a:Ar}(ad:l[i]? = some a)(ab:W=if((Qqt mid a).2==0)=true then(Qqt mid a).1 else[]){A:Env}{H1:Qa}(ah:FtF H H1 x op va A)(r4:A 4=.slice none 0 0)(ao:A 5=.Z i)(ap:A 6=.Z mid):
  Qk Pg Ga ⟨KP H W,Xi⟩ (KP H W) A H1:=by
 obtain⟨aa,av,g2,g3,ar,r2,r3⟩:=id ah;have aq:i<l.length:=(Lk.1 ad).1;obtain⟨a0,cap,rfl,ag⟩:=ai;obtain⟨b,e,ro,rfl,ae⟩:=ag (by omega);have aj:H1.get b=some (.cells (Qm l) e ro):=by rw[aa.get b (an.lt ae)];exact ae
 have d1:(0:Int)<=i∧(i:Int)<l.length:=by omega
 have d3:(i:Int).toNat=i:=by omega
 have al:=X4 l i a ad;have ak:i * 11+11<=(Qm l).length:=by rw[Q7];omega
 simp only[Ga,Qb,simprocAttr,r3,ao,ap,g3,d1,d3,aj,al];refine⟨ak,?_⟩;refine(Qyq mid a H1).w ?_;rintro _ H2 au ax ⟨v,rfl,am,ac⟩;simp only[Qb,simprocAttr];cases c:(Qqt mid a).2==0 with
 | false=>
  simp only[Qb,simprocAttr,Vj];rw[c,Le (by decide)]at ab;exact .mk (aa.trans ac).y ⟨by rw[ab];exact XZ.nil _ _ _,aa.trans ac⟩
 | true=>
  simp only[Qb,simprocAttr,Vj];rw[c,Lc rfl]at ab;exact .mk (aa.trans ac).y ⟨by rw[ab];exact am.down aa.y,aa.trans ac⟩
def QMF (ad:H.Wf)(hx:x.At H)(ae:QQ H va l)(aL:l.length<=1000)(aM:x.f.slots.length=l.length){W:List Ld}(aK:0<=Qy x.f.slots 2)(aa:W=Yu x.f l){A:Env}{H1:Qa}(ac:FtF H H1 x op va A)(r4:A 4=.slice none 0 0)(ai:A 5=.Z (Qy x.f.slots 2)):
  Qk Pg Gb ⟨KP H W,Xi⟩ (KP H W) A H1:=by
 obtain⟨aE,aP,g2,g3,aN,r2,r3⟩:=id ac;have am:x.cells.take 10=x.cells:=rfl;have aI:x.cells[6]? = some (.Z x.f.digit):=rfl;have aH:10<=x.cells.length:=Lb _;have az:=Qyj x.f.slots 2;have ay:=Qyj x.f.slots 1;unfold Yu at aa;rw[Le (by omega)]at aa;obtain⟨i,hi⟩:∃i:Nat,Qy x.f.slots 2=i:=⟨(Qy x.f.slots 2).toNat,by omega⟩;rw[hi]at aa ai az;obtain⟨a,ag⟩:∃a,l[i]? = some a:=⟨_,La (by omega)⟩;have ar:l[(i:Int).toNat]?.getD WY=a:=by rw[show(i:Int).toNat=i by omega,ag];rfl
 rw[ar]at aa;have ab:QKk x.f l=if 0<=Qy x.f.slots 1 then Xz (l[(Qy x.f.slots 1).toNat]?.getD WY).r else x.f.digit:=rfl
 simp only[Gb,Qb,simprocAttr,r2,g2,aI,am];refine⟨aH,?_⟩;refine(QH x 1 H1 (hx.ext ad aE)).w ?_;rintro _ _ aA al ⟨rfl,k,rfl⟩;have ah:Ext H1 (H1.up k):=(Ext.refl H1).up aA;obtain⟨aF,_,aJ,an,aO,_,_⟩:=ac.go ah al rfl rfl;simp only[Qb,simprocAttr];refine Qg (λh=>?_) (λh=>?_)
 ·have ao:0<=Qy x.f.slots 1:=Lg h;rw[Lc ao]at ab;obtain⟨j,av⟩:∃j:Nat,Qy x.f.slots 1=j:=⟨(Qy x.f.slots 1).toNat,by omega⟩;rw[av]at ay ab ⊢;obtain⟨c,aj⟩:∃c,l[j]? = some c:=⟨_,La (by omega)⟩;have au:l[(j:Int).toNat]?.getD WY=c:=by rw[show(j:Int).toNat=j by omega,aj];rfl
  rw[au]at ab;obtain⟨a0,cap,rfl,ap⟩:=id ae;obtain⟨b,e,ro,rfl,ak⟩:=ap (by omega);have aq:(H1.up k).get b=some (.cells (Qm l) e ro):=by rw[aF.get b (ad.lt ak)];exact ak
  have d1:(0:Int)<=j∧(j:Int)<l.length:=by omega
  have d3:(j:Int).toNat=j:=by omega
  have aC:=QgK aj;have ax:j * 11+1+2<=(Qm l).length:=by rw[Q7];omega
  have q:=Qal c.r;simp only[Rg.cells]at q;generalize H1.up k=H2 at *;simp only[Qb,simprocAttr,r3,an,d1,d3,aq,aC];refine⟨ax,?_⟩;refine(q H2).w ?_;rintro _ _ aB aD ⟨rfl,k4,rfl⟩;have aG:Ext H1 (H2.up k4):=ah.trans ((Ext.refl H2).up aB);simp only[Qb,simprocAttr];refine QLS ad ae (mid:=Xz c.r) ag (by rw[aa,ab]) (ac.go aG aD ?_ ?_) ?_ ?_ ?_
  all_goals simp only[Qf,simprocAttr,r4,ai]
 rw[Le (by have:=Ll h;omega)]at ab;simp only[Qb,simprocAttr];refine QLS ad ae (mid:=x.f.digit) ag (by rw[aa,ab]) (ac.go ah al ?_ ?_) ?_ ?_ ?_
 all_goals simp only[Qf,simprocAttr,r4,ai]
end
def Qqu {x:Lf}{op:Int}{va:Value}{l:List Ar}(H:Qa)(hx:x.At H)(aj:QQ H va l)(av:l.length<=1000)(ax:x.f.slots.length=l.length):
  Qe Pg 133 [.agg x.cells.toArray,.agg #[.Z op,va]] H λv H'=>XZ 210 H H' v (Yu x.f l)∧Ext H H':=by
 refine Qor λah=>?_;have ao:(Value.agg x.cells.toArray).cells.toList=x.cells:=rfl;have am:x.cells.take 10=x.cells:=rfl;have aC:10<=x.cells.length:=Lb _;obtain⟨W,ae⟩:∃W,W=Yu x.f l:=⟨_,rfl⟩;rw[<- ae];obtain⟨a0,cap,rfl⟩:=Wd aj;simp only[QfD,ao,Wu,simprocAttr];generalize ab:Qa.push H (.C x.cells 51)=H1;have g1:H1.get H.y=some (.C x.cells 51):=by rw[<- ab,Qc,Lc rfl]
 have aB:Ext H H1:=by rw[<- ab];exact(Ext.refl H).push _
 have ak:H1.y=H.y+1:=by rw[<- ab];rfl
 have az:H1.Wf:=by rw[<- ab];exact ah.push _
 clear ab;simp only[Qb,simprocAttr,ak];generalize aa:Qa.push H1 _=H2;have ac:Ext H H2:=by rw[<- aa];exact(aB.push _)
 have aE:H2.Wf:=by rw[<- aa];exact(az.push _)
 have ap:H2.get H.y=some (.C x.cells 51):=by rw[<- aa,Qc,Le (by omega)];exact g1
 have aq:H2.get (H.y+1)=some (.C [.Z op,.slice a0 l.length cap] 33):=by rw[<- aa,Qc,Lc (by omega)]
 have aD:H2.y=H.y+2:=by rw[<- aa,Qd,ak]
 clear aa;simp only[Qb,simprocAttr,g1,am];refine⟨aC,?_⟩;refine(QH x 2 H2 (hx.ext ah ac)).w ?_;rintro _ _ ay aA ⟨rfl,k,rfl⟩;have ad:Ext H2 (H2.up k):=(Ext.refl H2).up ay;have au:∀B:Env,B 2=.P H.y->B 3=.P (H.y+1)->FtF H (H2.up k) x op (.slice a0 l.length cap) B:=λB e2 e3=>⟨ac.trans ad,aA,by rw[Xo];exact ap,by rw[Xo];exact aq,by have:=ad.y;omega,e2,e3⟩;simp only[Qb,simprocAttr];refine Qg (λh=>?_) (λh=>?_)
 ·have ar:Qy x.f.slots 2<0:=Lg h;have an:W=[⟨[],0,0⟩]:=by rw[ae];unfold Yu;rw[Lc ar]
  simp only[Qb,simprocAttr,Vj];have al:=(ac.trans ad).push (.C [.slice none 0 0,.Z 0,.Z 0] 210);refine .mk al.y ⟨?_,al⟩;rw[an];refine⟨[.slice none 0 0],rfl,.inr ⟨(H2.up k).y,1,rfl,(ac.trans ad).y,by rw[Qc,Lc rfl];rfl,rfl,.inl rfl⟩,λj s w ag ai=>?_⟩;cases j with
  | zero=>simp at ag ai;subst ag;subst ai;exact .inl ⟨rfl,rfl,rfl⟩
  | succ j=>simp at ag
 simp only[Qb,simprocAttr];refine QMF ah hx aj av ax (by have:=Ll h;omega) ae (au _ ?_ ?_) ?_ ?_
 all_goals simp only[Qf,simprocAttr]
def Qyr (f:Fm)(s:Int):Bool:=decide (0<=Qy f.shapes s)
def QuG (w:Int)(f:Fm)(d:Int):Bool:=
 if(w==1)=true then Qyr f 26 else if(w==2)=true then Qyr f 27 else if(w==3)=true then(!(Qyr f 21||Qyr f 26)&&((d==4)||(d==-1))) else true
def Qys {H:Qa}{v:Value}{l:List Int}(h:Qaa H v l.length (ints l)):QBK H v l:=by
 obtain⟨a,c,rfl,aa⟩:=h;refine⟨a,c,rfl,λad=>?_⟩;obtain⟨b,e,ro,rfl,ab⟩:=aa ad;exact⟨b,e,ro,_,rfl,ab,λj ac=>ZY ac⟩
def QoO {x:Lf}(w d:Int)(H:Qa)(hx:x.At H):Qe Pg 38 [.Z w,.agg x.cells.toArray,.Z d] H λv H'=>v=.bool (QuG w x.f d)∧Ext H H':=by
 refine QmH λah=>?_;have al:(Value.agg x.cells.toArray).cells.toList=x.cells:=rfl;obtain⟨a1,c1,e1⟩:=Wd hx.2.2.1;have ae:x.cells[1]? = some (.slice a1 x.f.shapes.length c1):=by rw[<- e1];rfl
 obtain⟨W,aa⟩:∃W,W=QuG w x.f d:=⟨_,rfl⟩;rw[<- aa];unfold QuG at aa;have ag:=hx.2.2.1;rw[e1]at ag;simp only[QdV,al,Wu,simprocAttr];generalize ad:Qa.push H (.C x.cells 51)=H1;have g1:H1.get H.y=some (.C x.cells 51):=by rw[<- ad,Qc,Lc rfl]
 have ab:Ext H H1:=by rw[<- ad];exact(Ext.refl H).push _
 have an:H1.Wf:=by rw[<- ad];exact ah.push _
 clear ad;have q:=λs=>QlX _ _ s H1 (Qys (ag.ext ah ab)) hx.1;cases c1:w==1 with
 | true=>
  rw[c1,Lc rfl]at aa;simp only[Qb,simprocAttr,g1,ae];refine(q 26).w ?_;rintro _ H2 ac ai ⟨rfl,e2⟩;rw[e2]at ac ⊢;simp only[Qb,simprocAttr,WE];exact .mk ab.y ⟨by rw[aa];rfl,ab⟩
 | false=>
  rw[c1,Le (by decide)]at aa;cases c2:w==2 with
  | true=>
   rw[c2,Lc rfl]at aa;simp only[Qb,simprocAttr,c2,g1,ae];refine(q 27).w ?_;rintro _ H2 ac ai ⟨rfl,e2⟩;rw[e2]at ac ⊢;simp only[Qb,simprocAttr,WE];exact .mk ab.y ⟨by rw[aa];rfl,ab⟩
  | false=>
   rw[c2,Le (by decide)]at aa;cases c3:w==3 with
   | false=>
    rw[c3,Le (by decide)]at aa;simp only[Qb,simprocAttr,c2,c3,WE];exact .mk ab.y ⟨by rw[aa],ab⟩
   | true=>
    rw[c3,Lc rfl]at aa;simp only[Qb,simprocAttr,c2,c3,g1,ae];refine(q 21).w ?_;rintro _ H2 ac ai ⟨rfl,e2⟩;rw[e2]at ac ⊢;have aj:decide (0<=Qy x.f.shapes 21)=Qyr x.f 21:=rfl;have ak:decide (0<=Qy x.f.shapes 26)=Qyr x.f 26:=rfl;rw[aj];cases k1:Qyr x.f 21 with
    | true=>
     simp only[Qb,simprocAttr,WE];exact .mk ab.y ⟨by rw[aa,k1];rfl,ab⟩
    | false=>
     simp only[Qb,simprocAttr,g1,ae];refine(q 26).w ?_;rintro _ H3 am ao ⟨rfl,e3⟩;rw[e3,ak]at *;cases k2:Qyr x.f 26 with
     | true=>
      simp only[Qb,simprocAttr,WE];exact .mk ab.y ⟨by rw[aa,k1,k2];rfl,ab⟩
     | false=>
      cases k3:d==4 with
      | true=>
       simp only[Qb,simprocAttr,k3,WE];exact .mk ab.y ⟨by rw[aa,k1,k2,k3];rfl,ab⟩
      | false=>
       simp only[Qb,simprocAttr,k3,WE];exact .mk ab.y ⟨by rw[aa,k1,k2,k3];simp,ab⟩
def QH4 (a:Ar)(H:Qa):Qe Pg 285 [.agg a.cells.toArray] H λu H'=>u=.bool (a.k==2)∧Ext H H':=by
 refine QeJ λai=>?_;obtain⟨aa,⟨ag,ah⟩,⟨⟨ab,ac⟩,⟨ad,ae⟩,sc,d,sz⟩,n⟩:=a;simp only[Ar.cells,KA,Qb,simprocAttr,Qdz];have hx:=(Ext.refl H).push (.C [.Z aa,.Z ag,.Z ah,.Z ab,.Z ac,.Z ad,.Z ae,.Z sc,.Z d,.Z sz,.Z n] 95);exact .mk hx.y ⟨rfl,hx⟩
def Qyt {g:FuncId}{p:Ar->Bool}(an:∀ (a:Ar) (H:Qa),Qe Pg g [.agg a.cells.toArray] H λu H'=>u=.bool (p a)∧Ext H H')(va:Value)(l:List Ar)(H:Qa)(ak:QQ H va l)(ar:l.length<=1000):Qe Pg 71 [va,.func (.func g) #[] #[]] H λu H'=>∃r:Int,u=.Z r∧decide (0<=r)=l.any p∧Ext H H':=by
 refine Ky λag=>?_;obtain⟨a0,cap,rfl,aj⟩:=ak;simp only[XC,Qb,simprocAttr];refine Qp (λm A' H'=>∃i:Nat,i<=l.length∧m=l.length - i∧H'.Wf∧Ext H H'∧A' 0=.slice a0 l.length cap∧A' 1=.func (.func g) #[] #[]∧A' 7=.Z l.length∧A' 8=.Z i∧(l.take i).any p=false) l.length ?_ ?_
 ·refine⟨0,L7 _,by omega,ag,Ext.refl H,?_,?_,?_,?_,by simp⟩
  all_goals simp only[Qf,simprocAttr]
  all_goals rfl
 rintro m A' H' ⟨i,hi,rfl,av,hx,r0,r1,ah,r8,ac⟩;simp only[Qb,simprocAttr,ah,r8];refine Qg (λaa=>?_) (λaa=>?_)
 ·have aa:i<l.length:=by have:=Lg aa;omega
  obtain⟨a,ab⟩:∃a,l[i]? = some a:=⟨_,La aa⟩;obtain⟨b,e,ro,rfl,ae⟩:=aj (by omega);have al:H'.get b=some (.cells (Qm l) e ro):=by rw[hx.get b (ag.lt ae)];exact ae
  have ao:=X4 l i a ab;have am:i * 11+11<=(Qm l).length:=by rw[Q7];omega
  have d1:(0:Int)<=i∧(i:Int)<l.length:=by omega
  have d3:(i:Int).toNat=i:=by omega
  have ai:IntKind.i64.wrap ((i:Int)+1)=((i+1:Nat):Int):=by rw[w64 (by unfold I64;omega)];omega
  have ap:l.take (i+1)=l.take i++[a]:=by rw[Nv,ab];rfl
  simp only[Qb,simprocAttr,r0,r1,r8,d1,d3,al,ao,Quz];refine⟨am,?_⟩;refine(an a H').w ?_;rintro _ H2 au aq ⟨rfl,ad⟩;cases c:p a with
  | true=>
   simp only[Qb,simprocAttr,Xp];refine .mk (hx.trans ad).y ⟨i,rfl,?_,hx.trans ad⟩;rw[Lp d1.1];exact(Bh.2 ⟨a,Ln ab,c⟩).symm
  | false=>
   simp only[Qb,simprocAttr,r8,ai];refine⟨l.length - (i+1),by omega,i+1,by omega,rfl,aq,hx.trans ad,?_,?_,?_,?_,by rw[ap,Rz,ac];simp[c]⟩
   all_goals simp only[Qf,simprocAttr,r0,r1,ah]
 have aa:i=l.length:=by have:=Ll aa;omega
 subst aa;rw[Nr]at ac;simp only[Qb,simprocAttr,Xp];exact .mk hx.y ⟨-1,rfl,by rw[ac];rfl,hx⟩
def Qju {g:FuncId}{p:Ar->Bool}(ae:∀ (a:Ar) (H:Qa),Qe Pg g [.agg a.cells.toArray] H λu H'=>u=.bool (p a)∧Ext H H')(va:Value)(l:List Ar)(H:Qa)(ac:QQ H va l)(ad:l.length<=1000):Qe Pg 39 [va,.func (.func g) #[] #[]] H λu H'=>u=.bool (l.any p)∧Ext H H':=by
 refine Jh λah=>?_;simp only[Xb,Qb,simprocAttr];refine(Qyt ae va l H ac ad).w ?_;rintro _ H2 ag ai ⟨r,rfl,ab,aa⟩;simp only[Qb,simprocAttr,ZU];exact .mk aa.y ⟨by rw[ab],aa⟩
def QFp (c:Int):Int:=IntKind.u8.wrap (BitVec.ofInt IntKind.u8.bits c &&& BitVec.ofInt IntKind.u8.bits 7).toNat
def QsI (l:List Ar)(w:Ld):Int:=
 if(!(l.any λa=>a.k==2)||(w.b.length==0))=true then -1 else if(QFp (w.b.getD 0 0)==4)=true then(w.b.length:Int) - 2 else(w.b.length:Int) - 1
def Qh4 {op:Int}{va:Value}{l:List Ar}{w:Ld}{v:Value}{H0:Qa}(H:Qa)(ai:QQ H va l)(ax:l.length<=1000)(ay:Gx 1 5 H0 H v w.b.length (bys w.b))(aG:w.b.length<=1000):
  Qe Pg 222 [.agg #[.Z op,va],.agg #[v,.Z w.x,.Z w.h]] H λu H'=>u=.Z (QsI l w)∧Ext H H':=by
 refine Qgq λag=>?_;obtain⟨W,aa⟩:∃W,W=QsI l w:=⟨_,rfl⟩;rw[<- aa];unfold QsI at aa;obtain⟨a0,cap,rfl⟩:=Wd ai;obtain⟨a1,c1,rfl,au⟩:∃a c,v=.slice a w.b.length c∧(0<w.b.length->∃b,a=some ⟨b,0,none⟩∧H.get b=some (.C (bys w.b) 5)):=by
  rcases ay with⟨rfl,h,_⟩ | ⟨b,c,rfl,_,h,_,_⟩;·exact⟨none,0,by rw[h],λh'=>by omega⟩
  exact⟨_,c,rfl,λ_=>⟨b,rfl,h⟩⟩
 simp only[G4,Wu,simprocAttr];generalize ad:Qa.push H _=H1;have g1:H1.get H.y=some (.C [.Z op,.slice a0 l.length cap] 33):=by rw[<- ad,Qc,Lc rfl];rfl
 have aA:Ext H H1:=by rw[<- ad];exact(Ext.refl H).push _
 have ak:H1.y=H.y+1:=by rw[<- ad];rfl
 have az:H1.Wf:=by rw[<- ad];exact ag.push _
 clear ad
 try simp only[Qb,simprocAttr,ak]
 generalize ac:Qa.push H1 _=H2;have am:Ext H H2:=by rw[<- ac];exact(aA.push _)
 have aE:H2.Wf:=by rw[<- ac];exact(az.push _)
 have aB:H2.get H.y=some (.C [.Z op,.slice a0 l.length cap] 33):=by rw[<- ac,Qc,Le (by omega)];exact g1
 have aq:H2.get (H.y+1)=some (.C [.slice a1 w.b.length c1,.Z w.x,.Z w.h] 210):=by rw[<- ac,Qc,Lc (by omega)]
 have aC:H2.y=H.y+2:=by rw[<- ac,Qd,ak]
 clear ac;simp only[Qb,simprocAttr,g1];refine(Qju QH4 _ l H2 (ai.ext ag am) ax).w ?_;rintro _ H3 aD aF ⟨rfl,an⟩;have ab:=am.trans an;have ae:H3.get (H.y+1)=some (.C [.slice a1 w.b.length c1,.Z w.x,.Z w.h] 210):=by rw[an.get _ (by omega)];exact aq
 generalize (l.any λa=>a.k==2)=M at *;cases M with
 | false=>
  simp only[Qb,simprocAttr,Xc];exact .mk ab.y ⟨by rw[aa];rfl,ab⟩
 | true=>
  have ap:((w.b.length:Int)==0)=(w.b.length==0):=by
   rw[Ni,L0,L0];omega
  simp only[Qb,simprocAttr,ae,ap];cases c0:w.b.length==0 with
  | true=>
   simp only[Qb,simprocAttr,Xc];exact .mk ab.y ⟨by rw[aa,c0];rfl,ab⟩
  | false=>
   have al:0<w.b.length:=by have:=LC.1 c0;omega
   obtain⟨b,rfl,aj⟩:=au al;have av:H3.get b=some (.C (bys w.b) 5):=by rw[ab.get b (ag.lt aj)];exact aj
   have ar:(bys w.b)[0]? = some (.int .u8 (w.b.getD 0 0)):=by
    simp[bys,La al]
   have d1:(0:Int)<w.b.length:=by omega
   have ao:IntKind.u8.wrap (BitVec.ofInt IntKind.u8.bits (w.b.getD 0 0) &&& BitVec.ofInt IntKind.u8.bits 7).toNat=QFp (w.b.getD 0 0):=rfl;rw[c0,L8,NI,Le (by decide)]at aa;simp only[sxA,sxB,Nat.reduceBEq,Nat.reduceEqDiff,reduceCtorEq,mxA,mxB,Nat.reduceAdd,reduceIte,Nat.reduceLeDiff,splice,ae,av,d1];refine⟨B0 0,_,ar,?_⟩;simp only[Qb,simprocAttr,ao];have e2:IntKind.i64.wrap ((w.b.length:Int) - 2)=(w.b.length:Int) - 2:=w64 (by unfold I64;omega);have e1:IntKind.i64.wrap ((w.b.length:Int) - 1)=(w.b.length:Int) - 1:=w64 (by unfold I64;omega);cases ah:QFp (w.b.getD 0 0)==4 with
   | true=>
    rw[ah,Lc rfl]at aa;simp only[Qb,simprocAttr,ae,e2,Xc];exact .mk ab.y ⟨by rw[aa],ab⟩
   | false=>
    rw[ah,Le (by decide)]at aa;simp only[Qb,simprocAttr,ae,e1,Xc];exact .mk ab.y ⟨by rw[aa],ab⟩
def QtQ {x:Lf}{op:Int}{va:Value}(H:Qa):Qe Pg 105 [.agg x.cells.toArray,.agg #[.Z op,va]] H λu H'=>u=.func (.func 131) #[] #[.P H.y,.P (H.y+1)]∧Ext H H'∧H.y+2<=H'.y∧H'.get H.y=some (.C x.cells 51)∧H'.get (H.y+1)=some (.C (Value.agg #[.Z op,va]).cells.toList 33):=by
 refine Qr6 λab=>?_;have aa:(Value.agg x.cells.toArray).cells.toList=x.cells:=rfl;simp only[QiT,aa,Wu,simprocAttr];have hx:=((Ext.refl H).push (.C x.cells 51)).push (.C (Value.agg #[.Z op,va]).cells.toList 33);simp only[Qb,simprocAttr,Qqe];refine .mk hx.y ⟨rfl,hx,by simp only[Qd];omega,?_,?_⟩;·rw[Qc,Le (by rw[Qd];omega),Qc,Lc rfl]
 rw[Qc,Lc (by rw[Qd])]
def QnD {x:Lf}{op:Int}{va s aa:Value}{ac ab:Int}(H:Qa)(ag:s.oneCell'=true)(ae:aa.cells.toList=[aa]):Qe Pg 134 [.agg x.cells.toArray,.agg #[.Z op,va],.agg #[s,.Z ac,.Z ab],aa] H λu H'=>u=.func (.func 221) #[] #[.P (H.y+1),.P (H.y+2),.P H.y,.P (H.y+3)]∧Ext H H'∧H.y+4<=H'.y∧H'.get H.y=some (.C x.cells 51)∧H'.get (H.y+1)=some (.C (Value.agg #[.Z op,va]).cells.toList 33)∧H'.get (H.y+2)=some (.C (Value.agg #[s,.Z ac,.Z ab]).cells.toList 210)∧H'.get (H.y+3)=some (.C [aa] 22):=by
 refine Qly λah=>?_;have ad:(Value.agg x.cells.toArray).cells.toList=x.cells:=rfl;have hx:=((((Ext.refl H).push (.C x.cells 51)).push (.C (Value.agg #[.Z op,va]).cells.toList 33)).push (.C (Value.agg #[s,.Z ac,.Z ab]).cells.toList 210)).push (.C [aa] 22);simp only[QcK,ad,Wu,simprocAttr];simp only[Qb,simprocAttr,Qj3,ae];refine .mk hx.y ⟨rfl,hx,by simp only[Qd];omega,?_,?_,?_,?_⟩;·rw[Qc,Le (by simp only[Qd];omega),Qc,Le (by simp only[Qd];omega),Qc,Le (by simp only[Qd];omega),Qc,Lc rfl]
 ·rw[Qc,Le (by simp only[Qd];omega),Qc,Le (by simp only[Qd];omega),Qc,Lc (by simp only[Qd])]
 ·rw[Qc,Le (by simp only[Qd];omega),Qc,Lc (by simp only[Qd])]
 rw[Qc,Lc (by simp only[Qd])]
def QFq (P:Program)(ty:TypeId)(size:Nat):Bool:=match P.underlying ty with | some (.slice e)=>(match P.info? e with | some aa=>Nat.beq aa.size size | none=>false) | _=>false
def QAI {P:Program}{A:Env}{H:Qa}{k:Value->Qa->Prop}{ty:TypeId}{size:Nat}{x hi mx:Operand}{k1 k2:IntKind}{n:Int}{u v:Value}(aa:QFq P ty size=true)(hx:ev A x=u)(ae:ev A hi=.int k1 n)(ag:ev A mx=.int k2 n)(ah:Y3 size u none (some n) (some n)=some v):
  pr P (.gen (.slice ty x none (some hi) (some mx))) false A H k=k v H:=by
 unfold QFq at aa;split at aa
 ·rename_i e ac;split at aa
  ·rename_i ai ad;have e0:ai.size=size:=LA aa;subst e0;exact K6 (by
    have b1:QS A (some hi)=some (some n):=by simp[QS,ae]
    have ab:QS A (some mx)=some (some n):=by simp[QS,ag]
    have b0:QS A none=some none:=rfl;simp only[rop,aop,Qgk,ac,ad,b0,b1,ab,hx,X9,ah];rfl)
  cases aa
 cases aa
def Qf8 (f:Fm)(l:List Ar):Int:=if 0<=Qy f.slots 4 then IntKind.u8.wrap (IntKind.u8.wrap f.code+IntKind.u8.wrap (Xz (l[(Qy f.slots 4).toNat]?.getD WY).r)) else IntKind.u8.wrap f.code
def QgN (f:Fm)(l:List Ar)(e:List Int)(w:Ld):List Ld:=(QgL f l w.x w.h).map λaa=>⟨aa++[Qf8 f l]++w.b++e,0,QsI l w⟩
def QFr (p r:Int):(QfZ p r).length<=4:=by
 unfold QfZ QJ7
 repeat' split
 all_goals simp
def QFs (m:Int):(QgJ m).length<=2:=by
 unfold QgJ
 repeat' split
 all_goals simp
def QuH (f:Fm)(l:List Ar)(a b:Int):(QgL f l a b).length<=3∧∀aa∈QgL f l a b,aa.length<=6:=by
 unfold QgL;split;·unfold QAE;cases f.w==-1<;>(repeat' split)<;>simp[Qf0]
 refine⟨?_,λaa h=>?_⟩
 ·rw[Nn];unfold chF;repeat' split
  all_goals simp
 obtain⟨n,_,rfl⟩:=N4.1 h;have:=QFr f.pre n;have:=QFs f.map;rw[Lh];omega
structure PfF (Hz Hs H:Qa) (x:Lf) (op:Int) (va:Value) (p1 p2 p3 p4:Nat) (s tl:Value) (w:Ld) (e:List Int):Prop where
 z:Ext Hz H
 wf:H.Wf
 g1:H.get p1=some (.C [.Z op,va] 33)
 g2:H.get p2=some (.C [s,.Z w.x,.Z w.h] 210)
 g3:H.get p3=some (.C x.cells 51)
 g4:H.get p4=some (.C [tl] 22)
 s:Gx 1 5 Hs H s w.b.length (bys w.b)
 t:Gx 1 5 Hs H tl e.length (bys e)
structure PfO (Own:Nat->Prop) (Hz:Qa) (p1 p2 p3 p4:Nat) (s tl:Value):Prop where
 z:∀id,id<Hz.y->¬Own id
 o1:¬Own p1
 o2:¬Own p2
 o3:¬Own p3
 o4:¬Own p4
 s:∀id,inB s id->¬Own id
 t:∀id,inB tl id->¬Own id
section
variable {Hz Hs H:Qa} {x:Lf} {op:Int} {va:Value} {p1 p2 p3 p4:Nat} {s tl:Value} {w:Ld} {e:List Int} {Own:Qa->Nat->Prop}
def PfF.ck {H':Qa}(h:PfF Hz Hs H x op va p1 p2 p3 p4 s tl w e)(ab:PfO (Own H) Hz p1 p2 p3 p4 s tl)(aa:CK Own H H'):PfF Hz Hs H' x op va p1 p2 p3 p4 s tl w e:=by
 have ad:=aa.y;have ae:=h.z.y;refine⟨⟨by omega,λid ac=>?_⟩,aa.w,?_,?_,?_,?_,?_,?_⟩;·rw[aa.keep id (by omega) (ab.z id ac)];exact h.z.get id ac
 ·rw[aa.keep _ (h.wf.lt h.g1) ab.o1];exact h.g1
 ·rw[aa.keep _ (h.wf.lt h.g2) ab.o2];exact h.g2
 ·rw[aa.keep _ (h.wf.lt h.g3) ab.o3];exact h.g3
 ·rw[aa.keep _ (h.wf.lt h.g4) ab.o4];exact h.g4
 ·exact h.s.ext λid hi=>aa.keep id (h.s.low h.wf hi).2 (ab.s id hi)
 exact h.t.ext λid hi=>aa.keep id (h.t.low h.wf hi).2 (ab.t id hi)
def PfO.sub {O O':Nat->Prop}(h:PfO O Hz p1 p2 p3 p4 s tl)(ab:∀id,O' id->O id):PfO O' Hz p1 p2 p3 p4 s tl:=
 ⟨λid aa ac=>h.z id aa (ab _ ac),λaa=>h.o1 (ab _ aa),λaa=>h.o2 (ab _ aa),λaa=>h.o3 (ab _ aa),λaa=>h.o4 (ab _ aa),λid aa ac=>h.s id aa (ab _ ac),λid aa ac=>h.t id aa (ab _ ac)⟩
def VO.keep2 {e:TypeId}{H0 H H':Qa}{v:Value}{ws:List (List Int)}(h:VO e H0 H v ws)(aa:H.Wf)(ag:∀id,H0.y<=id->id<H.y->H'.get id=H.get id):VO e H0 H' v ws:=by
 obtain⟨ss,ah,ab,ac⟩:=h.it;exact⟨h.ne,ss,ah,ab.ext λid hi=>ag id (ab.low aa hi).1 (ab.low aa hi).2,λj s w ad ae=>(ac j s w ad ae).ext λid hi=>ag id ((ac j s w ad ae).low aa hi).1 ((ac j s w ad ae).low aa hi).2⟩
def QLT {base ay:Nat}{R:Nat->Qa->Prop}{l:List Ar}(ad:Cns base ay (QgN x.f l e w) LdV R Own)(bS:base<=H.y)(bu:FOk x.f)(hx:x.At Hz)(aE:QQ Hz va l)(aS:Hz.Wf)(au:∀n,Hz.y<=n->Qj n 6 (.agg #[.Z op,va])=true)(b8:l.length<=1000)(b9:x.f.slots.length=l.length)
  (bI:0<=w.x∧w.x<2) (bH:0<=w.h∧w.h<2) (bJ:x.f.vex=true->(vxF x.f l w.x w.h).Ok) (cb:w.b.length<=1000) (bU:e.length<=2000)
  {H1:Qa} (aC:PfF Hz Hs H1 x op va p1 p2 p3 p4 s tl w e) (aO:PfO (Own H1) Hz p1 p2 p3 p4 s tl) (ao:R 0 H1) (aJ:CK Own H H1)
  {A:Env} (r0:A 0=.func (.yield ay) #[] #[]) (r1:A 1=.P p1) (r2:A 2=.P p2) (r3:A 3=.P p3) (r4:A 4=.P p4) (am:A 6=.Z (QsI l w)) (an:A 7=.int .u8 (Qf8 x.f l)):
  Qk Pg Zh ⟨Rt Pg Tryz.f221 H λu H'=>R (QgN x.f l e w).length H'∧CK Own H H',Xi⟩ (Rt Pg Tryz.f221 H λu H'=>R (QgN x.f l e w).length H'∧CK Own H H') A H1:=by
 obtain⟨ax,aR,g1,g2,g3,g4,bA,bZ⟩:=id aC;have bd:x.cells.take 10=x.cells:=rfl;have bK:10<=x.cells.length:=Lb _;obtain⟨bN,sc,rfl⟩:=bA.slc;obtain⟨a0,cap,rfl⟩:=Wd aE;simp only[Zh,Qb,simprocAttr,r1,r2,r3,g1,g2,g3,bd];refine⟨bK,?_⟩;have au:=λn (h:H1.y<=n)=>au n (N8 ax.y h);refine(Qsz bu H1 (hx.ext aS ax) (aE.ext aS ax) au b8 b9 bI bH bJ).w ?_;rintro v H2 bW ag ⟨aQ,aT⟩;obtain⟨aZ,bO,rfl⟩:=aQ.slc;obtain⟨aD,aB⟩:=ad.ext _ _ _ ao aR aT;have aq:=ad.ck ao aR aT ag;have bn:=aC.ck aO aq;obtain⟨bT,br⟩:=QuH x.f l w.x w.h;generalize aH:QgL x.f l w.x w.h=hd at *;simp only[Qb,simprocAttr];refine Qp (λm A' H'=>∃i:Nat,i<=hd.length∧m=hd.length - i∧R i H'∧CK Own H2 H'∧A' 0=.func (.yield ay) #[] #[]∧A' 2=.P p2∧A' 4=.P p4∧A' 6=.Z (QsI l w)∧A' 7=.int .u8 (Qf8 x.f l)∧A' 35=.slice aZ hd.length bO∧A' 36=.Z hd.length∧A' 37=.Z i) hd.length ?_ ?_
 ·refine⟨0,L7 _,by omega,aD,ad.ck aD ag (.refl _) ag,?_,?_,?_,?_,?_,?_,?_,?_⟩
  all_goals simp only[Qf,simprocAttr,r0,r2,r4,am,an]
  all_goals rfl
 rintro m A' H' ⟨i,hi,rfl,ak,ae,r0,r2,r4,am,an,aX,aY,az⟩;have ac:=ae.w;simp only[Vm,Qb,simprocAttr,aY,az];refine Qg (λab=>?_) (λab=>?_)
 ·have ab:i<hd.length:=by have:=Lg ab;omega
  simp only[Vl,Qb,simprocAttr,aX,az];obtain⟨ss,bY,b5,ap⟩:=aQ.it;obtain⟨b,bq,rfl,aG⟩:∃b,H1.y<=b∧aZ=some ⟨b,0,none⟩∧H2.get b=some (.C ss 22):=by
   rcases b5 with⟨h,h',_⟩ | ⟨b,c,h,bL,bM,_⟩;·omega
   cases h;exact⟨b,bL,rfl,bM⟩
  have aN:∀id,H1.y<=id->¬Own H2 id:=λid bR ab=>by have:=ad.low _ _ _ ao (aB _ ab);omega
  have b4:H'.get b=some (.C ss 22):=by rw[ae.keep _ (ag.lt aG) (aN _ bq)];exact aG
  obtain⟨sv,al⟩:∃sv,ss[i]? = some sv:=⟨_,La (by omega)⟩;obtain⟨aa,ai⟩:∃bi,hd[i]? = some bi:=⟨_,La ab⟩;have aP:=(ap i sv aa al ai).ext (H':=H') λid aI=>ae.keep id ((ap i sv aa al ai).low ag aI).2 (aN _ ((ap i sv aa al ai).low ag aI).1);have bV:=br aa (Ln ai);have d1:(0:Int)<=i∧(i:Int)<hd.length:=by omega
  have d3:(i:Int).toNat=i:=by omega
  have bg:IntKind.i64.wrap ((i:Int)+1)=((i+1:Nat):Int):=by rw[w64 (by unfold I64;omega)];omega
  obtain⟨ba,bc,rfl⟩:=aP.slc;have aM:aa.length<UNK:=by unfold UNK;omega
  obtain⟨af,bx,bw⟩:=QHA aP aM;have bE:QFq Pg 22 1=true:=by kernel_rfl
  have ah:=bn.ck (aO.sub aB) ae;simp only[Qb,simprocAttr,d1,d3,b4,al];rw[QAI (k1:=.i64) (k2:=.i64) (n:=(aa.length:Int)) (u:=.slice ba aa.length bc) bE (by simp only[Qf,simprocAttr]) (by simp only[Qf,simprocAttr]) (by simp only[Qf,simprocAttr]) bx];simp only[Qb,simprocAttr,an];have aj:=(Ext.refl H').push (.C [.int .u8 (Qf8 x.f l)] 5);have bF:=ac.push (.C [.int .u8 (Qf8 x.f l)] 5);have bz:=QsH H' (Qf8 x.f l);generalize H'.push _=H4 at *;refine QEZ (bw.go ac aj) ⟨af,rfl⟩ bF bz.src (Qb5 _) (by decide) (by rw[ZR];rfl) (by omega) (by omega) aM ?_;rintro cc H5 b2 aW bG ⟨bP,rfl⟩;have aA:=ah.g2;have aU:=aj.trans aW;have bj:H5.get p2=some (.C [.slice bN w.b.length sc,.Z w.x,.Z w.h] 210):=by rw[aU.get _ (ac.lt aA)];exact aA
  have bC:=ah.s.go ac aU;simp only[Qb,simprocAttr,r2,bj];refine Qdk b2 aW bG bC.src (Qb5 _) (by rw[ZR,NH]) (by omega) (by omega) ?_;intro cd H6 b3 ar;have aV:=aj.trans ar.x;have bh:H6.get p4=some (.C [tl] 22):=by rw[aV.get _ (ac.lt ah.g4)];exact ah.g4
  have bD:=ah.t.go ac aV;simp only[Qb,simprocAttr,r4,bh];refine Qdk b3 ar.x ar.w bD.src (Qb5 _) (by rw[ZR,NH]) (by omega) (by omega) ?_;intro ce H7 aF aK;have av:=aj.trans aK.x;obtain⟨a7,bQ,rfl⟩:=aF.slc;have b6:(QgN x.f l e w)[i]? = some ⟨aa++[Qf8 x.f l]++w.b++e,0,QsI l w⟩:=by unfold QgN;rw[LD,aH,ai];rfl
  obtain⟨bo,bm⟩:=ad.ext _ _ _ ak ac av;simp only[Qb,simprocAttr,r0,am,Zz];refine QgM (ad.go _ _ H' H7 _ b6 bo ak ac ⟨_,rfl,?_⟩ (by have:=aJ.y;have:=aq.y;have:=ae.y;omega) av bm) ?_
  ·have e1:(aa++[Qf8 x.f l]++w.b++e).length=aa.length+1+w.b.length+e.length:=by simp only[Lh,Lo,L9]
   have e2:bys (aa++[Qf8 x.f l]++w.b++e)=bys aa++bys [Qf8 x.f l]++bys w.b++bys e:=by rw[Qb4,Qb4,Qb4]
   show Gx 1 5 H' H7 _ (aa++[Qf8 x.f l]++w.b++e).length (bys (aa++[Qf8 x.f l]++w.b++e));rw[e1,e2];exact aF.down aj.y
  rintro _ H8 bX ca ⟨rfl,bp,b7⟩;simp only[Qb,simprocAttr,az,bg];refine⟨hd.length - (i+1),by omega,i+1,by omega,rfl,bp,(ae.trans (ad.ck ak ac av aK.w)).trans b7,?_,?_,?_,?_,?_,?_,?_,?_⟩
  all_goals simp only[Qf,simprocAttr,r0,r2,r4,am,an,aX,aY]
 have ab:i=hd.length:=by have:=Ll ab;omega
 subst ab;simp only[Qb,simprocAttr,Qh1];have aL:=(aJ.trans aq).trans ae;exact .mk aL.y ⟨by unfold QgN;rw[Nn,aH];exact ak,aL⟩
def Qyu {base aN:Nat}{R:Nat->Qa->Prop}{l:List Ar}(aa:Cns base aN (QgN x.f l e w) LdV R Own)(ay:base<=H.y)(aA:FOk x.f)(hx:x.At Hz)(ac:QQ Hz va l)(ad:Hz.Wf)(aH:∀n,Hz.y<=n->Qj n 6 (.agg #[.Z op,va])=true)(aj:l.length<=1000)(aD:x.f.slots.length=l.length)
  (aJ:0<=w.x∧w.x<2) (aI:0<=w.h∧w.h<2) (aM:x.f.vex=true->(vxF x.f l w.x w.h).Ok) (ao:w.b.length<=1000) (az:e.length<=2000)
  (aq:PfF Hz Hs H x op va p1 p2 p3 p4 s tl w e) (aE:PfO (Own H) Hz p1 p2 p3 p4 s tl) (au:R 0 H):
  Qe Pg 221 [.func (.yield aN) #[] #[],.P p1,.P p2,.P p3,.P p4] H λu H'=>R (QgN x.f l e w).length H'∧CK Own H H':=by
 refine Qi2 λal=>?_;obtain⟨bm,b9,g1,g2,g3,g4,aG,b6⟩:=id aq;have aO:x.cells.take 10=x.cells:=rfl;have bp:10<=x.cells.length:=Lb _;have bq:x.cells[5]? = some (.Z x.f.code):=rfl;obtain⟨bA,sc,rfl⟩:=aG.slc;obtain⟨a0,cap,rfl⟩:=Wd ac;simp only[QaK,Qb,simprocAttr,g1,g2];refine⟨al.lt g3,?_⟩;refine(Qh4 H (ac.ext ad bm) aj aG ao).w ?_;rintro _ H2 b3 am ⟨rfl,ap⟩;obtain⟨av,aU⟩:=aa.ext _ _ _ au al ap;have ah:=aa.ck au al ap am;have ar:=aq.ck aE ah;have aF:=aE.sub aU;obtain⟨bn,_,br,bu,aR,bz,b4,b7⟩:=id ar;simp only[Qb,simprocAttr,aR,bq,aO];refine⟨ap.eqB,by simp[Qj,Ab.plain],bp,?_⟩;refine(QH x 4 H2 (hx.ext ad bn)).w ?_;rintro _ _ bg an ⟨rfl,k,rfl⟩;have aK:Ext H2 (H2.up k):=(Ext.refl H2).up bg;obtain⟨ag,aV⟩:=aa.ext _ _ _ av am aK;have ai:=aa.ck av am aK an;have ae:=ar.ck aF ai;have ak:=aF.sub aV;obtain⟨bo,_,aQ,bw,bx,b2,b5,b8⟩:=id ae;generalize H2.up k=H3 at *;have bd:=Qyj x.f.slots 4;have ab:Qf8 x.f l=if 0<=Qy x.f.slots 4 then IntKind.u8.wrap (IntKind.u8.wrap x.f.code+IntKind.u8.wrap (Xz (l[(Qy x.f.slots 4).toNat]?.getD WY).r)) else IntKind.u8.wrap x.f.code:=rfl
 simp only[Qb,simprocAttr];refine Qg (λh=>?_) (λh=>?_)
 ·have aS:0<=Qy x.f.slots 4:=Lg h;rw[Lc aS]at ab;obtain⟨j,ba⟩:∃j:Nat,Qy x.f.slots 4=j:=⟨(Qy x.f.slots 4).toNat,by omega⟩;rw[ba]at bd ab ⊢;obtain⟨c,ax⟩:∃c,l[j]? = some c:=⟨_,La (by omega)⟩;have aZ:l[(j:Int).toNat]?.getD WY=c:=by rw[show(j:Int).toNat=j by omega,ax];rfl
  rw[aZ]at ab;obtain⟨b,e',ro,aP,aB⟩:=(show 0<l.length->∃b e' ro,a0=some ⟨b,0,none⟩∧Hz.get b=some (.cells (Qm l) e' ro) by obtain⟨_,_,e0,aT⟩:=ac;cases e0;exact aT) (by omega);subst aP;have aY:H3.get b=some (.cells (Qm l) e' ro):=by rw[bo.get b (ad.lt aB)];exact aB
  have d1:(0:Int)<=j∧(j:Int)<l.length:=by omega
  have d3:(j:Int).toNat=j:=by omega
  have bi:=QgK ax;have bc:j * 11+1+2<=(Qm l).length:=by rw[Q7];omega
  have q:=Qal c.r;simp only[Rg.cells]at q;simp only[Qb,simprocAttr,aQ,d1,d3,aY,bi];refine⟨bc,?_⟩;refine(q H3).w ?_;rintro _ _ bh bj ⟨rfl,k4,rfl⟩;have aL:Ext H3 (H3.up k4):=(Ext.refl H3).up bh;obtain⟨aX,aW⟩:=aa.ext _ _ _ ag an aL;have aC:=aa.ck ag an aL bj;simp only[Qb,simprocAttr];refine QLT aa ay aA hx ac ad aH aj aD aJ aI aM ao az (ae.ck ak aC) (ak.sub aW) aX ((ah.trans ai).trans aC) ?_ ?_ ?_ ?_ ?_ ?_ ?_
  all_goals simp only[Qf,simprocAttr]
  rw[ab]
 rw[Le (by have:=Ll h;omega)]at ab;simp only[Qb,simprocAttr];refine QLT aa ay aA hx ac ad aH aj aD aJ aI aM ao az ae ak ag (ah.trans ai) ?_ ?_ ?_ ?_ ?_ ?_ ?_
 all_goals simp only[Qf,simprocAttr]
 rw[ab]
end
def QsJ:∀ (ss:List Value) (ws:List Ld) (i:Nat) (s:Value) (w:Ld),ss[i]? = some s->ws[i]? = some w->((ldC ss ws).drop (i * 3)).take 3=[s,.Z w.x,.Z w.h]
 | [],_,_,_,_,h,_=>by simp at h
 | _::_,[],_,_,_,_,h=>by simp at h
 | s::ss,w::ws,0,_,_,h1,h2=>by cases h1;cases h2;rfl
 | s::ss,w::ws,i+1,s',w',h1,h2=>by
  have e:ldC (s::ss) (w::ws)=[s,.Z w.x,.Z w.h]++ldC ss ws:=rfl;rw[e,show(i+1) * 3=3+i * 3 by omega,<- Rc];exact QsJ ss ws i s' w' h1 h2
structure QH5 (base lb:Nat) (items:List Ld) (Hz:Qa) (x:Lf) (op:Int) (va:Value) (e:List Int) (R:Nat->Qa->Prop) (Own:Qa->Nat->Prop):Prop where
 ext:∀j H H',R j H->H.Wf->Ext H H'->R j H'∧∀id,Own H' id->Own H id
 low:∀j H id,R j H->Own H id->id<H.y
 go:∀j w H Hs p1 p2 p3 p4 s tl,items[j]? = some w->R j H->PfF Hz Hs H x op va p1 p2 p3 p4 s tl w e->PfO (Own H) Hz p1 p2 p3 p4 s tl->base<=H.y->YQ Pg lb [.func (.func 221) #[] #[.P p1,.P p2,.P p3,.P p4]] H λu H'=>u=.bool true∧R (j+1) H'∧CK Own H H'
def QH5.ck {base ag:Nat}{ae:List Ld}{Hz:Qa}{x:Lf}{op:Int}{va:Value}{e:List Int}{R:Nat->Qa->Prop}{Own:Qa->Nat->Prop}(h:QH5 base ag ae Hz x op va e R Own){j:Nat}{H H':Qa}(ab:R j H)(ac:H.Wf)(hx:Ext H H')(ad:H'.Wf):CK Own H H':=
 ⟨hx.y,ad,λid aa _=>hx.get id aa,λid aa=>.inl ((h.ext j H H' ab ac hx).2 id aa)⟩
def XZ.keep2 {e:TypeId}{H0 H H':Qa}{v:Value}{ws:List Ld}(h:XZ e H0 H v ws)(aa:H.Wf)(ag:∀id,H0.y<=id->id<H.y->H'.get id=H.get id):XZ e H0 H' v ws:=by
 obtain⟨ss,ah,ab,ac⟩:=h.it;exact⟨ss,ah,ab.ext λid hi=>ag id (ab.low aa hi).1 (ab.low aa hi).2,λj s w ad ae=>(ac j s w ad ae).ext λid hi=>ag id ((ac j s w ad ae).low aa hi).1 ((ac j s w ad ae).low aa hi).2⟩
def QH6 {base aN ag ah:Nat}{x:Lf}{op:Int}{va:Value}{l:List Ar}{Hz H:Qa}{R:Nat->Qa->Prop}{Own:Qa->Nat->Prop}(ad:QH5 base aN (Yu x.f l) Hz x op va (QbS x.f op l) R Own)(bU:base<=H.y)(hx:x.At Hz)(bD:x.Fr 0)(aK:QQ Hz va l)(aA:Hz.Wf)(ce:∀n,Hz.y<=n->Qj n 6 (.agg #[.Z op,va])=true)(aZ:l.length<=1000)(b5:∀a∈l,I64 a.n)(ba:x.f.slots.length=l.length)(cc:(Yu x.f l).length<=1000)
  (aC:Ext Hz H) (bo:∀id,id<Hz.y->¬Own H id) (al:H.get ag=some (.C x.cells 51)) (am:H.get ah=some (.C [.Z op,va] 33)) (of:¬Own H ag) (bQ:¬Own H ah) (aJ:R 0 H):
  Qe Pg 131 [.func (.yield aN) #[] #[],.P ag,.P ah] H λu H'=>R (Yu x.f l).length H'∧CK Own H H':=by
 refine Qoq λak=>?_;have aG:x.cells.take 10=x.cells:=rfl;have aM:10<=x.cells.length:=Lb _;obtain⟨a0,cap,rfl⟩:=Wd aK;simp only[Qfz,Qb,simprocAttr,al,am,aG];refine⟨aM,?_⟩;refine(QtO H (hx.ext aA aC) bD (aK.ext aA aC) aZ b5 ba).w ?_;rintro cj H2 bW bL ⟨bh,ar⟩;obtain⟨aE,aF,rfl⟩:=bh.slc;have b2:H2.get ag=some (.C x.cells 51):=by rw[ar.get _ (ak.lt al)];exact al
 have b3:H2.get ah=some (.C [.Z op,.slice a0 l.length cap] 33):=by rw[ar.get _ (ak.lt am)];exact am
 have bn:=aC.trans ar;simp only[Qb,simprocAttr,b2,b3,aG];refine⟨aM,?_⟩;refine(Qqu H2 (hx.ext aA bn) (aK.ext aA bn) aZ ba).w ?_;rintro cl H3 bX ab ⟨az,bj⟩;have au:=ar.trans bj;have aq:=bh.go bL bj;obtain⟨aV,ao⟩:=ad.ext _ _ _ aJ ak au;have aX:=ad.ck aJ ak au ab;have az:=az.down ar.y;have ax:∀id,H.y<=id->¬Own H3 id:=λid aH ac=>by have:=ad.low _ _ _ aJ (ao _ ac);omega
 obtain⟨bq,bT,rfl⟩:=az.slc;have aD:=aC.trans au;have aR:H3.get ag=some (.C x.cells 51):=by rw[au.get _ (ak.lt al)];exact al
 have aT:H3.get ah=some (.C [.Z op,.slice a0 l.length cap] 33):=by rw[au.get _ (ak.lt am)];exact am
 generalize cd:Yu x.f l=W at *;simp only[Qb,simprocAttr];refine Qp (λm A' H'=>∃i:Nat,i<=W.length∧m=W.length - i∧R i H'∧CK Own H3 H'∧A' 0=.func (.yield aN) #[] #[]∧A' 1=.P ag∧A' 2=.P ah∧A' 4=.slice aE (QbS x.f op l).length aF∧A' 12=.slice bq W.length bT∧A' 13=.Z W.length∧A' 14=.Z i) W.length ?_ ?_
 ·refine⟨0,L7 _,by omega,aV,ad.ck aV ab (.refl _) ab,?_,?_,?_,?_,?_,?_,?_⟩
  all_goals simp only[Qf,simprocAttr]
  all_goals rfl
 rintro m A' H' ⟨i,hi,rfl,av,ae,r0,r1,r2,r4,bp,r13,aO⟩;have ai:=ae.w;simp only[Qb,simprocAttr,r13,aO];refine Qg (λac=>?_) (λac=>?_)
 ·have ac:i<W.length:=by have:=Lg ac;omega
  obtain⟨ss,bJ,bG,bF⟩:=az.it;obtain⟨b,bC,rfl,aW⟩:∃b,H.y<=b∧bq=some ⟨b,0,none⟩∧H3.get b=some (.C (ldC ss W) 210):=by
   rcases bG with⟨h,h',_⟩ | ⟨b,c,h,bR,bS,_⟩;·omega
   cases h;exact⟨b,bR,rfl,bS⟩
  have bE:H'.get b=some (.C (ldC ss W) 210):=by rw[ae.keep _ (ab.lt aW) (ax _ bC)];exact aW
  obtain⟨sv,bg⟩:∃sv,ss[i]? = some sv:=⟨_,La (by omega)⟩;obtain⟨w,aL⟩:∃w,W[i]? = some w:=⟨_,La ac⟩;have ap:=bF i sv w bg aL;have bd:=ap.ext (H':=H') λid aa=>ae.keep id (ap.low ab aa).2 (ax _ (ap.low ab aa).1);have bK:=aq.ext (H':=H') λid aa=>ae.keep id (aq.low ab aa).2 (ax _ (aq.low ab aa).1);have bA:=QsJ ss W i sv w bg aL;have bV:(ldC ss W).length=W.length * 3:=by rw[QnC _ _ bJ]
  have d1:(0:Int)<=i∧(i:Int)<W.length:=by omega
  have d3:(i:Int).toNat=i:=by omega
  have br:IntKind.i64.wrap ((i:Int)+1)=((i+1:Nat):Int):=by rw[w64 (by unfold I64;omega)];omega
  have aS:H'.get ag=some (.C x.cells 51):=by rw[ae.keep _ (ab.lt aR) (λh=>of (ao _ h))];exact aR
  have aU:H'.get ah=some (.C [.Z op,.slice a0 l.length cap] 33):=by rw[ae.keep _ (ab.lt aT) (λh=>bQ (ao _ h))];exact aT
  obtain⟨aP,aQ,rfl⟩:=bd.slc;have ch:=ai.lt aS;have ci:=ai.lt aU;have bO:¬ag=H'.y:=by omega
  have bP:¬ah=H'.y:=by omega
  simp only[Qb,simprocAttr,r0,r1,r2,r4,bp,aO,d1,d3,bE,bA,bO,bP,aS,aU,aG];refine⟨by omega,aM,?_⟩;generalize aI:(H'.push _).set H'.y _=H5;have bm:Ext H' H5:=by rw[<- aI];exact((Ext.refl H').push _).set (Lb _) _
  have cf:H5.Wf:=by rw[<- aI];exact(ai.push _).set (b0:=.C [.slice none 0 0,.Z 0,.Z 0] 210) (by rw[Qc,Lc rfl]) _
  clear aI;refine(QnD H5 rfl rfl).w ?_;rintro _ H6 ca bi ⟨rfl,bM,bZ,bu,bw,bx,bz⟩;have aB:=bm.trans bM;obtain⟨b8,b6⟩:=ad.ext _ _ _ av ai aB;have aj:=(ae.trans (ad.ck av ai aB bi));have ay:∀id,H'.y<=id->¬Own H6 id:=λid aH ac=>by have:=ad.low _ _ _ av (b6 _ ac);omega
  have bc:∀id,H.y<=id->id<H3.y->¬Own H6 id:=λid aH ac b4=>by
   rcases aj.own id b4 with an | an;·exact ax id aH an
   omega
  have bN:Ext Hz H6:=⟨by have:=aD.y;have:=aj.y;omega,λid aa=>by rw[aj.keep id (by have:=aD.y;omega) (λh=>bo id aa (ao _ h))];exact aD.get id aa⟩;have b7:PfF Hz H H6 x op (.slice a0 l.length cap) (H5.y+1) (H5.y+2) H5.y (H5.y+3) (.slice aP w.b.length aQ) (.slice aE (QbS x.f op l).length aF) w (QbS x.f op l):=⟨bN,bi,bw,bx,bu,bz,bd.go ai aB,bK.go ai aB⟩;have bY:=bm.y;have bI:PfO (Own H6) Hz (H5.y+1) (H5.y+2) H5.y (H5.y+3) (.slice aP w.b.length aQ) (.slice aE (QbS x.f op l).length aF):=
   ⟨λid aa h=>by
    rcases aj.own id h with an | an;·exact bo id aa (ao _ an)
    have:=aD.y;omega,
   ay _ (by omega),ay _ (by omega),ay _ (by omega),ay _ (by omega),λid aa=>bc id (ap.low ab aa).1 (ap.low ab aa).2,λid aa=>bc id (aq.low ab aa).1 (aq.low ab aa).2⟩
  simp only[Qb,simprocAttr,Zz];refine QgM (ad.go i w H6 H _ _ _ _ _ _ aL b8 b7 bI (by have:=aX.y;have:=aj.y;omega)) ?_;rintro _ H7 cb cg ⟨rfl,b9,bH⟩;simp only[Qb,simprocAttr,aO,br];refine⟨W.length - (i+1),by omega,i+1,by omega,rfl,b9,aj.trans bH,?_,?_,?_,?_,?_,?_,?_⟩
  all_goals simp only[Qf,simprocAttr,r0,r1,r2,r4,bp,r13]
 have ac:i=W.length:=by have:=Ll ac;omega
 subst ac;simp only[Qb,simprocAttr,QmJ];have aY:=aX.trans ae;exact .mk aY.y ⟨av,aY⟩
def Gx.keepS {size:Nat}{e:TypeId}{H0 H H':Qa}{v:Value}{n:Nat}{cs:List Value}(h:Gx size e H0 H v n cs)(ad:∀id,H.get id≠none->H'.get id=H.get id):Gx size e H0 H' v n cs:=by
 rcases h with h | ⟨b,c,rfl,ab,aa,ac⟩;·exact .inl h
 exact .inr ⟨b,c,rfl,ab,by rw[ad b (by rw[aa];simp)];exact aa,ac⟩
def XZ.keepS {e:TypeId}{H0 H H':Qa}{v:Value}{ws:List Ld}(h:XZ e H0 H v ws)(aa:∀id,H.get id≠none->H'.get id=H.get id):XZ e H0 H' v ws:=by
 obtain⟨ss,ab,ac,ad⟩:=h.it;exact⟨ss,ab,ac.keepS aa,λj s w ae ag=>(ad j s w ae ag).keepS aa⟩
def Gx.keep2 {size:Nat}{e:TypeId}{H0 H H':Qa}{v:Value}{n:Nat}{cs:List Value}(h:Gx size e H0 H v n cs)(aa:H.Wf)(ab:∀id,H0.y<=id->id<H.y->H'.get id=H.get id):Gx size e H0 H' v n cs:=h.ext λid hi=>ab id (h.low aa hi).1 (h.low aa hi).2
def QuI {H1 H2:Qa}(ac:H1.Wf)(hx:Ext H1 H2)(l:Nat)(id:Nat)(ab:(H1.kill l).get id≠none):(H2.kill l).get id=(H1.kill l).get id:=by
 rw[Q0]at ab;rw[Q0,Q0]
 by_cases aa:id=l;·rw[Lc aa,Lc aa]
 rw[Le aa]at ab;rw[Le aa,Le aa];refine hx.get id ?_;rcases Nq id H1.y with h | h;·exact h
 exact absurd (ac id h) ab
def QKl:PC:=.ops [Ow 8 (.alloc 91 [.slice none 0 0,.Z 0,.Z 0]),Ov (.st 3 (t 8) (t 18))]
def QKm:PC:=.block 3 (.ops [Ow 19 (.ld false 1 (t 6)),Ow 20 (.ld true 3 (t 8)),Ow 21 (.bslice 91 3 1 [.slice none 0 0,.Z 0,.Z 0] [(0,(t 20))]),Ow 22 (.app 91 3 40 (t 19) (t 21)),Ov (.st 1 (t 6) (t 22))])
def lyR (Hb:Qa)(c m lB:Nat)(eC:TypeId)(bl:Blk)(W:List Ld)(j:Nat)(H':Qa):Prop:=
 H'.get lB=some bl∧lB<H'.y∧Hb.y<=H'.y∧(∀id,id<Hb.y->id≠c->id≠m->H'.get id=Hb.get id)∧∃v,H'.get c=some (.C [v] eC)∧LsU 91 Hb (H'.kill lB) v (W.take j) H'.y∧∀id,inB v id->id<H'.y∧Hb.y<=id∧id≠lB
section
variable {Hb:Qa} {c m lB:Nat} {eC:TypeId} {bl:Blk} {W:List Ld}
def QBP (am:c<Hb.y){j:Nat}{H1 H2:Qa}(h:lyR Hb c m lB eC bl W j H1)(aj:H1.Wf)(hx:Ext H1 H2):lyR Hb c m lB eC bl W j H2∧∀id,clO c lB eC H2 id->clO c lB eC H1 id:=by
 obtain⟨ab,ah,al,ac,v,ad,ae,ag⟩:=h;have ai:=hx.y;have aa:=hx.get c (by omega);refine⟨⟨by rw[hx.get lB ah];exact ab,by omega,by omega,λid a b d=>by rw[hx.get id (by omega)];exact ac id a b d,v,by rw[aa];exact ad,(ae.of λg=>g.keepS (QuI aj hx lB)).mono ai,λid hi=>?_⟩,λid hi=>?_⟩;·have:=ag id hi;exact⟨by omega,this.2⟩
 rcases hi with h | h | ⟨ak,h,hi⟩;·exact .inl h
 ·exact .inr (.inl h)
 exact .inr (.inr ⟨ak,by rw[<- aa];exact h,hi⟩)
def QBQ (ah:c<Hb.y){j:Nat}{H1:Qa}(h:lyR Hb c m lB eC bl W j H1){id:Nat}(hi:clO c lB eC H1 id):id<H1.y:=by
 obtain⟨ac,ai,ad,ae,v,aa,ag,ab⟩:=h;rcases hi with rfl | rfl | ⟨aj,h,hi⟩;·omega
 ·omega
 rw[aa]at h;cases h;exact(ab id hi).1
def QKn {L:Option Code->Blk}{A:Env}(ap:c<Hb.y)(aq:c≠lB)(aS:m=lB∨Hb.y<=lB)(bn:W.length<=1000)(aN:YR Pg L [18] QKl QKm A)(aE:A 6=.P c){aa base:Nat}{aC:List Ld}(bo:Hb.y<=base)(ar:lB<base)(hit:∀ (i:Nat) w,aC[i]? = some w->W[aa+i]? = some w):
  Cns base lB aC LdV (λi=>lyR Hb c m lB eC (L none) W (aa+i)) (clO c lB eC):=by
 refine⟨λj Ha Hc h aY hx=>QBP ap h aY hx,λj Ha id h hi=>QBQ ap h hi,?_⟩;rintro j w H0' H1' b5 aQ aL aM aW ⟨s,rfl,au⟩ bp ax bm ak;obtain⟨aH,bu,aI,aJ,v,ag,_,az⟩:=aL;have ai:LsU 91 Hb (H1'.kill lB) v (W.take (aa+j)) H0'.y:=by
  obtain⟨_,_,aI,_,bi,aK,ai,_⟩:=aM;rw[ax.get c (by omega),aK]at ag;cases ag;exact ai.of λg=>g.keepS (QuI aW ax lB)
 refine aN lB _ H1' _ aH rfl ?_ ak;have aA:=hit j w aQ;have br:=(Lk.1 aA).1;have al:∀id,id≠lB->(H1'.kill lB).get id=H1'.get id:=λid ac=>by rw[Q0,Le ac]
 have bc:(H1'.kill lB).get lB=none:=by rw[Q0,Lc rfl]
 have bz:(H1'.kill lB).y=H1'.y:=rfl;have av:(H1'.kill lB).Wf:=ak.kill _;have k5:=(al c aq).trans ag;have ks:Gx 1 5 Hb (H1'.kill lB) s w.b.length (bys w.b):=(au.down (H0:=Hb) (by omega)).ext λid ac=>al id (by have:=au.low ak ac;omega);have k3:∀id,id<Hb.y->id≠c->id≠m->id≠lB->(H1'.kill lB).get id=Hb.get id:=λid a b d e=>(al id e).trans (aJ id a b d);generalize bj:H1'.kill lB=Hk at *;obtain⟨a,an,rfl⟩:=ks.slc;obtain⟨am,ao,rfl⟩:=ai.ls.slc;have bd:¬c=Hk.y:=by omega
 simp only[QKl,QKm,K3,V6,Qb,simprocAttr,bd,k5,aE];generalize ah:Qa.push (Qa.set (Qa.push Hk _) _ _) _=H5;have ad:Ext Hk H5:=by rw[<- ah];exact(((Ext.refl Hk).push _).set (Lb _) _).push _
 have aX:H5.Wf:=by rw[<- ah];exact((av.push _).set (b0:=.C [.slice none 0 0,.Z 0,.Z 0] 91) (by rw[Qc,Lc rfl]) _).push _
 have aG:H5.get (Hk.y+1)=some (.C [.slice a w.b.length an,.Z w.x,.Z w.h] 91):=by rw[<- ah,Qc,Lc (by rw[Qo,Qd])]
 have bx:H5.y=Hk.y+2:=by rw[<- ah,Qd,Qo,Qd]
 clear ah;have aT:YX 3 (.S (Hk.y+1) 1 1) H5=some (1,[.slice a w.b.length an,.Z w.x,.Z w.h]):=by
  rw[KM aG (by decide) (by simp)];rfl
 have bw:(W.take (aa+j)).length<=1000:=by rw[Sb];omega
 obtain⟨Hz,aB,b3⟩:∃Hz:Qa,Ext Hz H5∧Hz.y=Hb.y:=⟨⟨Hb.y,H5.tr⟩,⟨by show Hb.y<=H5.y;omega,λid _=>rfl⟩,rfl⟩;have aR:LsU 91 Hz H5 (.slice am (W.take (aa+j)).length ao) (W.take (aa+j)) H0'.y:=(ai.go av ad).down (by omega);have aU:Gx 1 5 Hz H5 (.slice a w.b.length an) w.b.length (bys w.b):=(ks.go av ad).down (by omega);refine QBO (by decide) aR (U':=Hk.y) (by have:=ax.y;omega) (λa aO=>by have:=au.low ak aO;omega) aB aX aU aT (by omega) (by omega) ?_;intro bi H6 aj ab;obtain⟨aF,c',rfl⟩:=aj.ls.slc;have aV:W.take (aa+(j+1))=W.take (aa+j)++[w]:=by rw[<- Rh,Nv,aA];rfl
 rw[<- aV]at aj ab ⊢;have ay:∀id,id<Hb.y->H6.get id=H5.get id:=λid ac=>(ab.x.get id (by omega)).trans (aB.get id (by omega)).symm;have aZ:H6.get c=some (.C [.slice am (W.take (aa+j)).length ao] eC):=by rw[ay _ ap,ad.get _ (by omega)];exact k5
 have b2:=ab.y;have ba:H6.get lB=none:=by
  rw[ab.keep lB (by omega) (λh=>(az lB h).2.2 rfl),ad.get _ (by omega)];exact bc
 simp only[Qb,simprocAttr,K2,aE,aZ];refine⟨by omega,⟨by rw[Qh,Lc rfl],by rw[Qo,Qo];omega,by rw[Qo,Qo];omega,λid p q r=>?_,.slice aF (W.take (aa+(j+1))).length c',?_,?_,λid hi=>?_⟩,⟨by rw[Qo,Qo];omega,?_,λid p q=>?_,λid hi=>?_⟩⟩
 ·have ar:id≠lB:=by rcases aS with h | h;rw[<- h];exact r;omega
  rw[Qh,Le ar,Qh,Le q,ay _ p,ad.get _ (by omega)];exact k3 id p q r ar
 ·rw[Qh,Le aq,Qh,Lc rfl]
 ·refine((aj.down (H0:=Hb) (by omega)).of λg=>g.keep2 ab.w λid ac bq=>?_).mono (by rw[Qo,Qo];have:=ad.y;omega);rw[Q0]
  by_cases ae:id=lB;·rw[Lc ae,ae,ba]
  rw[Le ae,Qh,Le ae,Qh,Le (by omega)]
 ·obtain⟨ss,_,aP,_⟩:=aj.it;have:=aP.low ab.w hi;rw[Qo,Qo];refine⟨this.2,by omega,λae=>?_⟩;rcases ab.new id hi with h | h;·exact(az id h).2.2 ae
  omega
 ·intro id ac;rw[Qo,Qo]at ac;rw[Qh,Le (by omega),Qh,Le (by omega)];exact ab.w id ac
 ·have bg:id≠c:=λh=>q (.inl h);have aD:id≠lB:=λh=>q (.inr (.inl h));have bh:¬inB (.slice am (W.take (aa+j)).length ao) id:=λh=>q (.inr (.inr ⟨_,ag,h⟩));rw[Qh,Le aD,Qh,Le bg,ab.keep id (by omega) bh,ad.get _ (by omega),al id aD]
 rcases hi with h | h | ⟨b4,h,hi⟩;·exact .inl (.inl h)
 ·exact .inl (.inr (.inl h))
 rw[Qh,Le aq,Qh,Lc rfl]at h;cases h;rcases ab.new id hi with h | h;·exact .inl (.inr (.inr ⟨_,ag,h⟩))
 exact .inr (by omega)
end
def QLU:PC:=.ops [Om 7 (t 16)]
def QLV:PC:=.block 1 (.seq (.ops [Om 17 (t 7)]) (.block 2 (.rangeF (t 17) [18] QKl QKm)))
def Qyv (f:Ld->List Ld)(P:List Ld)(j:Nat):Nat:=((P.take j).flatMap f).length
def QKo {f:Ld->List Ld}{P:List Ld}{j:Nat}{w:Ld}(h:P[j]? = some w):Qyv f P (j+1)=Qyv f P j+(f w).length∧∀ (i:Nat) y,(f w)[i]? = some y->(P.flatMap f)[Qyv f P j+i]? = some y:=by
 have aa:P.take (j+1)=P.take j++[w]:=by rw[Nv,h];rfl
 refine⟨by unfold Qyv;rw[aa,Bm,Lh];simp,λi y ab=>?_⟩;have ad:=(Lk.1 h).1;have ac:P.flatMap f=(P.take j).flatMap f++(f w++(P.drop (j+1)).flatMap f):=by
  conv=>lhs;rw[<- NW (j+1) P]
  rw[Bm,aa,Bm];simp
 have hi:=(Lk.1 ab).1;rw[ac];unfold Qyv;rw[LR (Ro _ _),NL,LY hi];exact ab
section
variable {Hb:Qa} {c m:Nat} {eC:TypeId}
def QKp {L:Option Code->Blk}{A:Env}{x:Lf}{op:Int}{va:Value}{l:List Ar}{e:List Int}{Hz:Qa}{P:List Ld}(am:c<Hb.y)(bC:m<Hb.y)(ai:c≠m)(aP:(P.flatMap (QgN x.f l e)).length<=1000)(aQ:YR Pg L [16] QLU QLV A)(b7:A 6=.P c)
  (aX:FOk x.f) (hx:x.At Hz) (aS:QQ Hz va l) (bx:Hz.Wf) (bi:∀n,Hz.y<=n->Qj n 6 (.agg #[.Z op,va])=true) (aZ:l.length<=1000) (bd:x.f.slots.length=l.length) (aW:e.length<=2000)
  (aN:∀w∈P,(0<=w.x∧w.x<2)∧(0<=w.h∧w.h<2)∧(x.f.vex=true->(vxF x.f l w.x w.h).Ok)∧w.b.length<=1000):
  QH5 Hb.y m P Hz x op va e (λj=>lyR Hb c m m eC (L none) (P.flatMap (QgN x.f l e)) (Qyv (QgN x.f l e) P j)) (clO c m eC):=by
 refine⟨λj Ha Hc h bn hx=>QBP am h bn hx,λj Ha id h hi=>QBQ am h hi,?_⟩;rintro j w H Hs p1 p2 ao ap s aC ay aO aa ab b9;obtain⟨ak,bA,aI,aJ,v,al,aK,av⟩:=id aO;intro bj;refine aQ m _ H _ ak rfl ?_ bj;have b3:clO c m eC H m:=.inr (.inl rfl);have bz:∀id,id≠m->(H.kill m).get id=H.get id:=λid ac=>by rw[Q0,Le ac]
 have b2:(H.kill m).get m=none:=by rw[Q0,Lc rfl]
 have bh:(H.kill m).y=H.y:=rfl;have az:(H.kill m).Wf:=aa.wf.kill _;generalize H.kill m=Hk at *;simp only[QLU,QLV,K3,V6,Wu,simprocAttr,Qf,simprocAttr,Ya];rw[QaB 221 [] [.P p1,.P p2,.P ao,.P ap]];intro L2 aR;refine⟨by kernel_rfl,?_⟩;have an:Ext Hk (Hk.push (L2 none)):=(Ext.refl Hk).push _;have bF:(Hk.push (L2 none)).y=H.y+1:=by rw[Qd,bh]
 have aG:(Hk.push (L2 none)).get Hk.y=some (L2 none):=by rw[Qc,Lc rfl]
 have bq:=az.push (L2 none);generalize Hk.push (L2 none)=Hi at *;have ad:∀id,id≠m->id<H.y->Hi.get id=H.get id:=λid ak aI=>by rw[an.get id (by omega),bz id ak]
 have ah:Hi.get c=some (.C [v] eC):=by rw[ad c ai (by omega)];exact al
 have ae:∀id,id<H.y->¬clO c m eC H id->¬clO c Hk.y eC Hi id:=λid aA ar aB=>by
  rcases aB with q | q | ⟨aD,q,aq⟩;·exact ar (.inl q)
  ·omega
  rw[ah]at q;cases q;exact ar (.inr (.inr ⟨_,al,aq⟩))
 have ne:∀ {id},¬clO c m eC H id->id≠m:=λq h=>q (h▸b3);have aL:PfF Hz Hs Hi x op va p1 p2 ao ap s aC w e:=
  ⟨⟨by have:=aa.z.y;omega,λid ac=>by rw[ad id (ne (ab.z id ac)) (by have:=aa.z.y;omega)];exact aa.z.get id ac⟩,bq,by rw[ad _ (ne ab.o1) (aa.wf.lt aa.g1)];exact aa.g1,by rw[ad _ (ne ab.o2) (aa.wf.lt aa.g2)];exact aa.g2,by rw[ad _ (ne ab.o3) (aa.wf.lt aa.g3)];exact aa.g3,by rw[ad _ (ne ab.o4) (aa.wf.lt aa.g4)];exact aa.g4,
   aa.s.ext λid hi=>ad id (ne (ab.s id hi)) (aa.s.low aa.wf hi).2,aa.t.ext λid hi=>ad id (ne (ab.t id hi)) (aa.t.low aa.wf hi).2⟩
 have aM:PfO (clO c Hk.y eC Hi) Hz p1 p2 ao ap s aC:=⟨λid q=>ae id (by have:=aa.z.y;omega) (ab.z id q),ae _ (aa.wf.lt aa.g1) ab.o1,ae _ (aa.wf.lt aa.g2) ab.o2,ae _ (aa.wf.lt aa.g3) ab.o3,ae _ (aa.wf.lt aa.g4) ab.o4,λid q=>ae id (aa.s.low aa.wf q).2 (ab.s id q),λid q=>ae id (aa.t.low aa.wf q).2 (ab.t id q)⟩;obtain⟨aT,aU⟩:=QKo (f:=QgN x.f l e) ay;obtain⟨bw,bp,bu,br⟩:=aN w (Ln ay);generalize b8:P.flatMap (QgN x.f l e)=W at *;have aV:=QKn (Hb:=Hb) (c:=c) (m:=m) (lB:=Hk.y) (eC:=eC) (W:=W) (base:=Hi.y) am (by omega) (.inr (by omega)) aP aR (by simp only[Qf,simprocAttr,b7]) (by omega) (by omega) aU;refine(Qyu aV (Lb _) aX hx aS bx bi aZ bd bw bp bu br aW aL aM ?_).w ?_
 ·refine⟨aG,by omega,by omega,λid a b d=>by rw[ad id d (by omega)];exact aJ id a b d,v,ah,(aK.of λg=>g.keepS λid ac=>?_).mono (by omega),λid hi=>?_⟩;·have ba:id<Hk.y:=Nat.lt_of_not_le λh=>ac (az id h);rw[Q0,Le (by omega)];exact an.get id ba
  have:=av id hi;exact⟨by omega,this.2.1,by omega⟩
 rintro u H2 bD bm ⟨ax,aj⟩;rw[<- aT]at ax;obtain⟨aA,ar,aB,b4,aD,au,b5,b6⟩:=id ax;refine⟨none,aA,?_⟩;have bc:H2.get m=none:=by
  rw[aj.keep m (by omega) ?_,an.get m (by omega)];·exact b2
  rintro(h | h | ⟨aE,h,h'⟩);·exact ai h.symm
  ·omega
  rw[ah]at h;cases h;have:=av m h';omega
 have ag:∀id,id≠m->id≠Hk.y->((H2.kill Hk.y).set m (L none)).get id=H2.get id:=λid a b=>by rw[Qh,Le a,Q0,Le b]
 have bg:((H2.kill Hk.y).set m (L none)).y=H2.y:=rfl;have aH:((H2.kill Hk.y).set m (L none)).get m=some (L none):=by rw[Qh,Lc rfl]
 have bo:((H2.kill Hk.y).set m (L none)).Wf:=λid ac=>by
  rw[bg]at ac;rw[ag id (by omega) (by omega)];exact bm id ac
 have aY:∀id,id≠m->id≠Hk.y->(((H2.kill Hk.y).set m (L none)).kill m).get id=H2.get id:=λid a b=>by rw[Q0,Le a];exact ag id a b
 simp only[Qb,simprocAttr,V5,K2];generalize (H2.kill Hk.y).set m (L none)=Hf at *;have bE:=aj.y;refine⟨by show H.y<=H2.y;omega,⟨aH,by omega,by omega,λid a b d=>by rw[ag id d (by omega)];exact b4 id a b d,aD,by rw[ag c ai (by omega)];exact au,(b5.of λg=>g.keepS λid ac=>?_).mono (by omega),λid hi=>?_⟩,⟨by omega,bo,λid a b=>?_,λid a=>?_⟩⟩
 ·rw[Q0]at ac;split at ac;·exact absurd rfl ac
  rename_i q;have aq:id≠m:=λh=>ac (h▸bc);rw[aY id aq q,Q0,Le q]
 ·have:=b6 id hi;exact⟨by omega,this.2.1,by omega⟩
 ·rw[ag id (ne b) (by omega),aj.keep id (by omega) (ae id a b),ad id (ne b) a]
 rcases a with a | a | ⟨aE,a,aF⟩;·exact .inl (.inl a)
 ·exact .inl (.inr (.inl a))
 rw[ag c ai (by omega),au]at a;cases a;rcases aj.own id (.inr (.inr ⟨_,au,aF⟩)) with h | h
 ·rcases h with h | h | ⟨aE,h,h'⟩;·exact .inl (.inl h)
  ·exact .inr (by omega)
  rw[ah]at h;cases h;exact .inl (.inr (.inr ⟨_,al,h'⟩))
 exact .inr (by omega)
end
def QjQ {f:Fm}{op:Int}{l:List Ar}(h:Qqs f op l=true):f.op=op∧f.shapes.length=l.length∧QoN f=0∧Wl op l=0∧∀i,i<l.length->Qk6 (WI op l) (l.getD i WY) (f.shapes.getD i 0)=true:=by
 unfold Qqs at h;simp only[Lm,L0,Li,LU]at h;exact⟨h.1.1.1.1,h.1.1.1.2,h.1.1.2,h.1.2,h.2⟩
def Qyw (x:Int):∀ (l:List Int) (k:Nat),0<=Ve l x k->(k:Int)<=Ve l x k∧l.getD ((Ve l x k).toNat - k) 0=x
 | [],k,h=>by simp[Ve]at h
 | y::l,k,h=>by
  unfold Ve at h ⊢;split;·rename_i e;exact⟨B0 _,by simp[e]⟩
  rename_i e;rw[Le e]at h;obtain⟨ab,aa⟩:=Qyw x l (k+1) h;refine⟨by omega,?_⟩;have e2:(Ve l x (k+1)).toNat - k=((Ve l x (k+1)).toNat - (k+1))+1:=by omega
  rw[e2,List.getD_cons_succ];exact aa
def QH7 {l:List Int}{x:Int}(h:0<=Qy l x):l.getD (Qy l x).toNat 0=x:=(Qyw x l 0 h).2
def Qyx:∀ {l:List Ar},Qp7 l=0->∀a∈l,WD a=0
 | [],_,_,h=>by cases h
 | a::l,h,b,aa=>by
  unfold Qp7 at h;split at h
  ·rename_i q;rcases LK.1 aa with rfl | aa;·simpa using q
   exact Qyx h b aa
  rename_i q;simp[h]at q
def Qyy {op:Int}{l:List Ar}(h:Wl op l=0):Qp7 l=0∧l.length<=4:=by
 unfold Wl at h;split at h;·simp at h
 split at h;·simp at h
 split at h;·rename_i q;simp[h]at q
 rename_i ab ac aa;exact⟨by simpa using aa,by omega⟩
def QFt {r:Rg}(h:WC r=true):0<=r.n∧r.n<16:=by
 unfold WC Qgw at h;simp only[Lv]at h;split at h;·simp only at h;omega
 split at h;·simp only at h;omega
 split at h<;>simp only at h<;>omega
def QFu {f:Fm}{op:Int}{l:List Ar}(h:Qqs f op l=true){s:Int}(av:s=1∨s=3∨s=4∨s=7)(aj:0<=Qy f.slots s):∃a,l[(Qy f.slots s).toNat]? = some a∧a.k=1∧(1<=a.r.c∧a.r.c<=7)∧WC a.r=true:=by
 obtain⟨_,ar,ai,ak,al⟩:=QjQ h;have ax:=Qwg ai;have ao:=Qyj f.slots s;obtain⟨j,an⟩:∃j:Nat,Qy f.slots s=j:=⟨(Qy f.slots s).toNat,by omega⟩;have ag:=QH7 aj;rw[an]at ag ao ⊢;have e1:(j:Int).toNat=j:=by omega
 rw[e1]at ag ⊢;obtain⟨a,ad⟩:∃a,l[j]? = some a:=⟨_,La (by omega)⟩;refine⟨a,ad,?_⟩;have ah:QhM f=true:=QqN ai 3 (by omega);unfold QhM at ah;rw[Lm]at ah;have ab:Qnz (f.shapes.getD j 0) (f.slots.getD j 0)=true:=Li.1 ah.2 j (LU.2 (by omega));rw[ag]at ab;have au:1<=f.shapes.getD j 0∧f.shapes.getD j 0<=6:=by
  unfold Qnz at ab;rw[Le (by omega),Le (by omega),Lc (by omega)]at ab;simpa using ab
 have aa:=al j (by omega);unfold Qk6 at aa;rw[Lm]at aa;have am:l.getD j WY=a:=by simp[ad]
 rw[am]at aa;have ae:a.k=1∧(1<=a.r.c∧a.r.c<=7):=by
  have e:(QAH (WI op l) a).a=a:=by unfold QAH;split<;>rfl
  obtain⟨n,ap⟩:∃n:Nat,(f.shapes.getD j 0).toNat=n:=⟨_,rfl⟩;have aa:=aa.2;rw[ap]at aa;have:n=1∨n=2∨n=3∨n=4∨n=5∨n=6:=by omega
  rcases this with rfl | rfl | rfl | rfl | rfl | rfl
  all_goals
   simp only[QnB,WR,e,Nw,Lm,L0]at aa;omega
 have ac:=Qyx (Qyy ak).1 a (Ln ad);unfold WD at ac;rw[Lc (by simp[ae.1])]at ac;refine⟨ae.1,ae.2,?_⟩;cases aq:WC a.r with
 | true=>rfl
 | false=>rw[aq]at ac;simp at ac
def QFv {f:Fm}{op:Int}{l:List Ar}(h:Qqs f op l=true){s:Int}(ag:s=1∨s=3∨s=4∨s=7)(aa:0<=Qy f.slots s):∃a,l[(Qy f.slots s).toNat]? = some a∧a.k=1∧(1<=a.r.c∧a.r.c<=7)∧0<=a.r.n∧a.r.n<16:=by
 obtain⟨a,ab,ac,ad,ae⟩:=QFu h ag aa;exact⟨a,ab,ac,ad,QFt ae⟩
def QLW {f:Fm}{op:Int}{l:List Ar}(h:Qqs f op l=true)(aj:f.vex=true){a b:Int}(ad:0<=a∧a<2)(ae:0<=b∧b<2):(vxF f l a b).Ok:=by
 obtain⟨_,ak,ac,al,am⟩:=QjQ h;have aa:=QBL ac;obtain⟨ao,ai,aq,an⟩:=aa.vx aj;have ap:=aa.map;refine⟨QqM _ _ _,ad,?_,?_,?_,?_,?_,ai⟩
 ·show 0<=hB f l b∧hB f l b<2;unfold hB;split;·exact QqM _ _ _
  exact ae
 ·show 1<=f.map∧f.map<4;omega
 ·show 0<=Qyk f.w∧Qyk f.w<2;unfold Qyk;split<;>omega
 ·show 0<=QtH f l 3∧QtH f l 3<16;unfold QtH;split;·rename_i ab;obtain⟨c,ag,_,_,ah⟩:=QFv h (.inr (.inl rfl)) ab;rw[ag];exact ah
  omega
 show 0<=f.l∧f.l<2;omega
def QuJ (d:Int):(Qak d 4).1.length<=8:=Qjn _ _ (by decide)
def QFw (w:Ld):Prop:=(0<=w.x∧w.x<2)∧(0<=w.h∧w.h<2)∧w.b.length<=100
def z02:(0:Int)<=0∧(0:Int)<2:=by decide
def Qyz (mid:Int)(aa:Rg)(f d:Int):QFw (QgI mid aa f d):=by
 have:=QuJ d;refine⟨Qnv _,z02,?_⟩;unfold QgI;simp only[Lh,Lo,L9];omega
def QoP (mid ac:Int)(sib:List Int)(ad:sib.length<=8)(m:Mm):∀w∈ZT mid ac sib m,QFw w:=by
 intro w aa;unfold ZT at aa;obtain⟨ab,_,h⟩:=NF.1 aa;unfold Kb at h;split at h;·have:=Qyn ab m;rw[Sa]at h;subst h;refine⟨Qnv _,Qnv _,?_⟩;simp only[Lh,Lo,L9];omega
 cases h
def QH8 (mid:Int)(m:Mm):∀w∈Qk7 mid m,QFw w:=by
 intro w aa;unfold Qk7 at aa;split at aa;·rw[Sa]at aa;subst aa;have:=QuJ m.d;refine⟨z02,z02,?_⟩;simp only[Lh,Lo,L9];omega
 split at aa;·rw[Sa]at aa;subst aa;exact Qyz _ _ _ _
 split at aa;·exact QoP _ _ _ (by simp) _ w aa
 rcases LI.1 aa with aa | aa
 ·split at aa;·cases aa
  exact QoP _ _ _ (by simp) _ w aa
 rcases LI.1 aa with aa | aa;·exact QoP _ _ _ (by simp) _ w aa
 split at aa;·cases aa
 rw[Sa]at aa;subst aa;exact Qyz _ _ _ _
def QH9 (mid:Int)(a:Ar):(Qqt mid a).1.length<=8∧∀w∈(Qqt mid a).1,QFw w:=by
 unfold Qqt;split;·simp
 split;·simp
 split;·refine⟨by simp,λw aa=>?_⟩;rw[Sa]at aa;subst aa;exact⟨z02,Qnv _,by simp⟩
 split;·exact⟨Qyp _ _,QH8 _ _⟩
 simp
def QoQ (f:Fm)(l:List Ar):(Yu f l).length<=8∧∀w∈Yu f l,QFw w:=by
 unfold Yu;split;·refine⟨by simp,λw aa=>?_⟩;rw[Sa]at aa;subst aa;exact⟨z02,z02,by simp⟩
 split;·exact QH9 _ _
 simp
def Qds {α β:Type}{f:α->List β}{n:Nat}:∀ (l:List α),(∀a∈l,(f a).length<=n)->(l.flatMap f).length<=l.length * n
 | [],_=>by simp
 | a::l,h=>by
  have ab:=h a (Ny ..);have ac:=Qds l λb aa=>h b (NA _ aa);rw[Ba,Lh,Lo,Ry];omega
def QoR (f:Fm)(op:Int)(l:List Ar):List Ld:=if Qqs f op l=true then(Yu f l).flatMap (QgN f l (QbS f op l)) else[]
def Qwk (f:Fm)(op:Int)(l:List Ar):(QoR f op l).length<=24:=by
 unfold QoR;split
 ·have aa:=(QoQ f l).1;have ab:=Qds (f:=QgN f l (QbS f op l)) (n:=3) (Yu f l) λw _=>by unfold QgN;rw[Nn];exact(QuH _ _ _ _).1
  omega
 simp
def QFx (f:Fm)(op:Int)(l:List Ar):(QbS f op l).length<=2000:=by
 unfold QbS;have:=QBM (QH1 f op l) (tlN f);rw[Lh];split<;>split<;>simp<;>omega
def Qwl {x:Lf}{op:Int}{va:Value}{l:List Ar}(H:Qa)(hx:x.At H)(az:x.Fr 0)(ak:QQ H va l)(aF:∀n,H.y<=n->Qj n 6 (.agg #[.Z op,va])=true)(al:l.length<=1000)(ay:∀a∈l,I64 a.n):
  Qe Pg 69 [.agg x.cells.toArray,.agg #[.Z op,va]] H λu H'=>∃v,u=.tuple #[v,.bool (decide (0<(QoR x.f op l).length))]∧LsU 91 H H' v (QoR x.f op l) H'.y∧Ext H H':=by
 refine Qto λac=>?_;have aK:(Value.agg x.cells.toArray).cells.toList=x.cells:=rfl;have ap:x.cells.take 10=x.cells:=rfl;have aI:10<=x.cells.length:=Lb _;obtain⟨W,aa⟩:∃W,W=QoR x.f op l:=⟨_,rfl⟩;have bq:W.length<=24:=by rw[aa];exact Qwk _ _ _
 rw[<- aa];unfold QoR at aa;obtain⟨a0,cap,rfl⟩:=Wd ak;simp only[Qky,aK,Wu,simprocAttr];generalize ae:Qa.push H (.C x.cells 51)=H1;have g1:H1.get H.y=some (.C x.cells 51):=by rw[<- ae,Qc,Lc rfl]
 have bd:Ext H H1:=by rw[<- ae];exact(Ext.refl H).push _
 have aB:H1.y=H.y+1:=by rw[<- ae];rfl
 have aZ:H1.Wf:=by rw[<- ae];exact ac.push _
 clear ae;simp only[Qb,simprocAttr,aB];generalize ad:Qa.push H1 _=H2;have an:Ext H H2:=by rw[<- ad];exact(bd.push _)
 have b5:H2.Wf:=by rw[<- ad];exact(aZ.push _)
 have aL:H2.get H.y=some (.C x.cells 51):=by rw[<- ad,Qc,Le (by omega)];exact g1
 have aq:H2.get (H.y+1)=some (.C [.Z op,.slice a0 l.length cap] 33):=by rw[<- ad,Qc,Lc (by omega)]
 have bu:H2.y=H.y+2:=by rw[<- ad,Qd,aB]
 clear ad;simp only[Qb,simprocAttr,g1,aq,ap];refine⟨aI,?_⟩;refine(Qwi H2 (hx.ext ac an) az (ak.ext ac an) al ay).w ?_;rintro _ H3 bw ba ⟨rfl,ao⟩;have ah:=an.trans ao;cases ag:Qqs x.f op l with
 | false=>
  rw[ag,Le (by decide)]at aa;subst aa;simp only[Qb,simprocAttr,QiQ];exact .mk ah.y ⟨_,rfl,LsU.nil _ _ _ _,ah⟩
 | true=>
  rw[ag,Lc rfl]at aa;have aM:H3.get H.y=some (.C x.cells 51):=by rw[ao.get _ (by omega)];exact aL
  have aN:H3.get (H.y+1)=some (.C [.Z op,.slice a0 l.length cap] 33):=by rw[ao.get _ (by omega)];exact aq
  have bh:¬H.y=H3.y:=by omega
  have bi:¬H.y+1=H3.y:=by omega
  simp only[Qb,simprocAttr,bh,bi,aM,aN,ap];refine⟨aI,?_⟩;obtain⟨H4,eC,aX,bg,b6,bx,ax⟩:∃H4 eC,H4.get H3.y=some (.C [.slice none 0 0] eC)∧Ext H3 H4∧H4.Wf∧H4.y=H3.y+1∧H4=H3.push (.C [.slice none 0 0] _):=⟨_,_,by rw[Qc,Lc rfl],(Ext.refl H3).push _,ba.push _,rfl,rfl⟩;rw[<- ax];clear ax;refine(QtQ H4).w ?_;rintro _ H5 b2 bc ⟨rfl,aG,bz,aP,aQ⟩;have ab:=(ah.trans bg).trans aG;have aO:H5.get H3.y=some (.C [.slice none 0 0] eC):=by rw[aG.get _ (by omega)];exact aX
  simp only[Wu,simprocAttr,Qf,simprocAttr,Ya];rw[QaB 131 [] [.P H4.y,.P (H4.y+1)]];intro L aV;refine⟨by kernel_rfl,?_⟩;have ai:Ext H5 (H5.push (L none)):=(Ext.refl H5).push _;have b4:(H5.push (L none)).y=H5.y+1:=rfl;have aS:(H5.push (L none)).get H5.y=some (L none):=by rw[Qc,Lc rfl]
  have b8:=bc.push (L none);generalize H5.push (L none)=Hb at *;have ar:Hb.get H3.y=some (.C [.slice none 0 0] eC):=by rw[ai.get _ (by omega)];exact aO
  obtain⟨_,_,aD,_,_⟩:=QjQ ag;have aT:∀w∈Yu x.f l,(0<=w.x∧w.x<2)∧(0<=w.h∧w.h<2)∧(x.f.vex=true->(vxF x.f l w.x w.h).Ok)∧w.b.length<=1000:=λw ac=>by
   obtain⟨au,av,bp⟩:=(QoQ x.f l).2 w ac;exact⟨au,av,λaY=>QLW ag aY au av,by omega⟩
  have aE:x.f.slots.length=l.length:=by rw[<- Qwg aD];exact(QjQ ag).2.1
  have aC:=QKp (Hb:=Hb) (c:=H3.y) (m:=H5.y) (eC:=eC) (op:=op) (va:=.slice a0 l.length cap) (e:=QbS x.f op l) (Hz:=H) (by omega) (by omega) (by omega) (by rw[<- aa];omega) aV (by simp only[Qf,simprocAttr]) (QBL aD) hx ak ac aF al aE (QFx _ _ _) aT;rw[<- aa]at aC;have am:∀id,id≠H3.y->id≠H5.y->¬clO H3.y H5.y eC Hb id:=λid p q h=>by
   rcases h with h | h | ⟨v,h,o,n,c,h'⟩;·exact p h
   ·exact q h
   rw[ar]at h;cases h;cases h'
  refine(QH6 aC (Lb _) hx az ak ac aF al ay aE (by have:=(QoQ x.f l).1;omega) (ab.trans ai) (λid aA=>am id (by have:=ah.y;omega) (by have:=ab.y;omega)) (by rw[ai.get _ (by omega)];exact aP) (by rw[ai.get _ (by omega)];exact aQ) (am _ (by omega) (by omega)) (am _ (by omega) (by omega)) ?_).w ?_;·refine⟨aS,by omega,by omega,λ_ _ _ _=>rfl,_,ar,?_,λid ⟨o,n,c,h⟩=>by cases h⟩;exact LsU.nil _ _ _ _
  rintro u H6 b3 b7 ⟨aU,br⟩;obtain⟨bj,b9,bA,bm,aJ,bn,aj,bC⟩:=aU;refine⟨none,bj,?_⟩;have aW:Qyv (QgN x.f l (QbS x.f op l)) (Yu x.f l) (Yu x.f l).length=W.length:=by unfold Qyv;rw[Nr,aa]
  rw[aW,Nr]at aj;have aH:Ext H (H6.kill H5.y):=⟨by have:=ab.y;show H.y<=H6.y;omega,λid aA=>by rw[Q0,Le (by have:=ab.y;omega),bm id (by have:=ab.y;omega) (by have:=ah.y;omega) (by have:=ab.y;omega)];exact(ab.trans ai).get id aA⟩;have aR:(H6.kill H5.y).get H3.y=some (.C [aJ] eC):=by rw[Q0,Le (by omega)];exact bn
  have aj:LsU 91 H (H6.kill H5.y) aJ W (H6.kill H5.y).y:=aj.down (H0:=H) (by have:=ab.y;omega);generalize H6.kill H5.y=H7 at *;obtain⟨a7,bo,rfl⟩:=aj.ls.slc;simp only[Qb,simprocAttr,V5,aR,QiQ];refine .mk aH.y ⟨_,?_,aj,aH⟩;rw[show decide ((0:Int)<(W.length:Int))=decide (0<W.length) by simp]
def Qjv (op:Int):List Ar->Bool
 | [x,y]=>(op==11)&&(((x.k==1)&&(y.k==1))&&(x.r.c==y.r.c))&&!(x.r.n==y.r.n)
 | _=>false
def Qao (op:Int)(l:List Ar):List (List Ar):=
 if((QT op l).2.2==0)=true then[(QT op l).2.1]++(if Qjv op (QT op l).2.1=true then[(QT op l).2.1.reverse] else[]) else[]
def QyA (op:Int)(vs:List Value):List Value:=vs.flatMap λs=>[.Z op,s]
def QIa (H:Qa)(v:Value)(op:Int)(ws:List (List Ar)):Prop:=∃vs:List Value,vs.length=ws.length∧Qaa H v ws.length (QyA op vs)∧∀ (j:Nat) s w,vs[j]? = some s->ws[j]? = some w->QQ H s w∧∀n,H.y<=n->Qj n 6 (.agg #[.Z op,s])=true
def QDi {op:Int}{l:List Ar}(h:(QT op l).2.2=0):QT op l=(op,(QT op l).2.1,0):=by
 unfold QT at h ⊢;split;·rename_i q;rw[Lc q]at h;simp only at h;rw[h]at q;exact absurd q (by decide)
 rename_i q;rw[Le q]at h;split;·rename_i aa;rw[Lc aa]at h;simp only at h;rw[h]at aa;exact absurd aa (by decide)
 rfl
def QyB {H H':Qa}{op:Int}{v:Value}{l:List Ar}(aa:QQ H' v l)(ab:∀a n c,v=.slice (some a) n c->H.y<=a.block∧a.block<H'.y)(n:Nat)(ad:H'.y<=n):Qj n 6 (.agg #[.Z op,v])=true:=by
 obtain⟨a,cap,rfl,ac⟩:=aa;cases a with
 | none=>simp[Qj,Ab.plain]
 | some a=>
  have:=(ab _ _ _ rfl).2;simp[Qj,Ab.plain];omega
def QuK (aa:Int×Bool):∀l:List Ar,(Q5 aa l).1.length<=l.length
 | []=>Lb _
 | a::l=>by
  unfold Q5;split;·simpa using QuK aa l
  simp
def QDj (op:Int)(l:List Ar):(Ja op l).length<=l.length+1:=by
 unfold Ja;split;·split<;>simp
 split;·simp
 split<;>simp
def QyC (op:Int)(l:List Ar):(QT op l).2.1.length<=5:=by
 unfold QT;split;·simp
 rename_i h;split;·simp
 have:=Qgz (op:=op) (l:=l) (by simpa using h);have:=QuK (WI op l) l;have:=QDj op (Q5 (WI op l) l).1;simp only;omega
def QMG {op:Int}{m:List Ar}{W:List (List Ar)}{H H3:Qa}{B:Nat}{a2:Option Addr}{c2:Nat}(aJ:m.length<=1000)(aB:W=[m]++if Qjv op m=true then[m.reverse] else[])(aO:Ext H H3)(ai:H3.Wf)(g3:H3.get B=some (.C [.Z op,.slice a2 m.length c2] 33))(av:QQ H3 (.slice a2 m.length c2) m)(aH:∀n,H3.y<=n->Qj n 6 (.agg #[.Z op,.slice a2 m.length c2])=true){A:Env}(r3:A 3=.P B):
  Qk Pg Ka ⟨Rt Pg Tryz.f68 H λu H'=>QIa H' u op W∧Ext H H',Xi⟩ (Rt Pg Tryz.f68 H λu H'=>QIa H' u op W∧Ext H H') A H3:=by
 have lB:=ai.lt g3;have nB:¬B=H3.y:=by omega
 simp only[Ka,Qb,simprocAttr,r3,g3,nB];generalize ag:H3.push _=H4;have aP:Ext H3 H4:=by rw[<- ag];exact(Ext.refl _).push _
 have b2:H4.Wf:=by rw[<- ag];exact ai.push _
 have g4:H4.get H3.y=some (.C [.Z op,.slice a2 m.length c2] 33):=by rw[<- ag,Qc,Lc rfl]
 have bq:H4.y=H3.y+1:=by rw[<- ag];rfl
 clear ag;refine⟨rfl,?_⟩;refine(QBf _ m H4 (av.ext ai aP) aJ).w ?_;rintro u H5 br ap ⟨aA,aI⟩;obtain⟨ab,cap,aa,rfl,ao,bo⟩:∃ab cap aa,u=.slice ab m.length cap∧(0<m.length->ab=some ⟨aa,0,none⟩∧H4.y<=aa∧H5.get aa=some (.C (Qm m) 95))∧(∀a,ab=some a->H4.y<=a.block∧a.block<H5.y):=by
  rcases aI with⟨rfl,rfl | ⟨rfl,rfl⟩⟩ | ⟨bz,rfl,rfl⟩;·exact⟨none,0,0,rfl,λh=>absurd h (NX 0),λa h=>by cases h⟩
  ·exact⟨_,0,0,rfl,λh=>absurd h (NX 0),λa h=>by cases h;exact⟨Lb _,by rw[Qd];exact Rq _⟩⟩
  refine⟨_,_,H4.y+1,rfl,λ_=>⟨rfl,by omega,by rw[Qc,Lc (by simp only[Qd])]⟩,λa h=>by cases h;simp only[Qd];omega⟩
 clear aI;simp only[Qb,simprocAttr];refine⟨aA.eqB,?_⟩;generalize ah:H5.push _=H6;have aq:Ext H5 H6:=by rw[<- ah];exact(Ext.refl _).push _
 have b3:H6.Wf:=by rw[<- ah];exact ap.push _
 have bu:H6.y=H5.y+1:=by rw[<- ah];rfl
 have ak:H6.get H5.y=some (.C [.Z op,.slice ab m.length cap] 141):=by rw[<- ah,Qc,Lc rfl]
 clear ah;have aj:=(aP.trans aA).trans aq;have ae:=aO.trans aj;have aD:H6.get H3.y=some (.C [.Z op,.slice a2 m.length c2] 33):=by rw[aq.get _ (by omega),aA.get _ (by omega)];exact g4
 have aW:=av.ext ai aj;have aY:QQ H6 (.slice ab m.length cap) m:=⟨ab,cap,rfl,λh=>⟨aa,_,_,(ao h).1,by rw[aq.get _ (ap.lt (ao h).2.2)];exact(ao h).2.2⟩⟩
 -- one spelling
 have ax:Qjv op m=false->QIa H6 (.S H3.y 1 1) op W:=λh=>by
  rw[aB,Le (by rw[h];decide),Na];refine⟨[.slice a2 m.length c2],rfl,⟨_,1,rfl,λ_=>⟨H3.y,_,_,rfl,aD⟩⟩,λj s w ad al=>?_⟩;rcases j with _ | j;·cases ad;cases al;exact⟨aW,λn aK=>aH n (by have:=aj.y;omega)⟩
  simp at ad
 cases aG:op==11 with
 | false=>
  simp only[Qb,simprocAttr,XK];refine .mk ae.y ⟨ax ?_,ae⟩;unfold Qjv;split<;>simp[aG]
 | true=>
  simp only[Qb,simprocAttr];refine(Qcz H5.y op _ m H6 false ak aY aJ).w ?_;rintro _ H6 _ _ ⟨rfl,rfl⟩;cases ac:Qcy m with
  | false=>
   simp only[Qb,simprocAttr,XK];refine .mk ae.y ⟨ax ?_,ae⟩;unfold Qjv;unfold Qcy at ac;split;·simp only at ac;rw[ac];simp
   rfl
  | true=>
   obtain⟨x,y,rfl⟩:∃x y,m=[x,y]:=by
    unfold Qcy at ac;split at ac;·exact⟨_,_,rfl⟩
    cases ac
   obtain⟨rfl,bp,ay⟩:=ao (FH _);have aC:H6.get aa=some (.C (Qm [x,y]) 95):=by rw[aq.get _ (ap.lt ay)];exact ay
   have e2:(Qm [x,y])[2]? = some (.Z x.r.n):=rfl;have aR:(Qm [x,y])[13]? = some (.Z y.r.n):=rfl;have d0:(0:Int)<=0∧(0:Int)<(([x,y]:List Ar).length:Int):=by simp
   have d1:(0:Int)<=1∧(1:Int)<(([x,y]:List Ar).length:Int):=by simp
   simp only[sxA,sxB,Nat.reduceBEq,Nat.reduceEqDiff,reduceCtorEq,mxA,mxB,Nat.reduceAdd,reduceIte,Nat.reduceLeDiff,splice,ak,aC];refine⟨d0,_,e2,d1,_,aR,?_⟩;simp only[Qb,simprocAttr];have aX:((x.k==1)&&(y.k==1)&&(x.r.c==y.r.c))=true:=ac;cases aL:x.r.n==y.r.n with
   | true=>
    simp only[Qb,simprocAttr,XK];exact .mk ae.y ⟨ax (by simp[Qjv,aL]),ae⟩
   | false=>
    have bg:Qjv op [x,y]=true:=by simp only[Qjv,aG,aX,aL];rfl
    simp only[Qb,simprocAttr];simp only[Qbw,Qb,simprocAttr];refine(Vc H5.y aa cap op x y H6 false 95 ak aC).w ?_;rintro _ H7 bw aM ⟨rfl,am⟩;have au:∀id,id≠aa->H7.get id=H6.get id:=λid h=>by rw[am,Qh,Le h,Qh,Le h]
    have aS:H7.get aa=some (.C (Qm [y,x]) 95):=by rw[am,Qh,Lc rfl]
    have bx:H7.y=H6.y:=by rw[am];rfl
    clear am;have b4:=ap.lt ay;have aT:H7.get H5.y=some (.C [.Z op,.S aa 2 cap] 141):=by rw[au _ (by omega)];exact ak
    have aE:H7.get H3.y=some (.C [.Z op,.slice a2 2 c2] 33):=by rw[au _ (by omega)];exact aD
    simp only[Qb,simprocAttr,aT];have bj:Ext H3 H7:=⟨by have:=aj.y;omega,λid ba=>by rw[au id (by omega)];exact aj.get id ba⟩;generalize an:H7.push _=H8;have ar:Ext H7 H8:=by rw[<- an];exact(Ext.refl _).push _
    have bh:H8.Wf:=by rw[<- an];exact aM.push _
    have aU:H8.get H7.y=some (.C [.Z op,.S aa 2 cap] 33):=by rw[<- an,Qc,Lc rfl]
    clear an;have bm:=aM.lt aE;have aV:H8.get H3.y=some (.C [.Z op,.slice a2 2 c2] 33):=by rw[ar.get _ bm];exact aE
    have bc:Gx 2 33 H3 H8 (.S H3.y 1 1) 1 [.Z op,.slice a2 2 c2]:=.inr ⟨_,_,rfl,Lb _,aV,rfl,.inl rfl⟩;have bd:YX 2 (.S H7.y 1 1) H8=some (1,[.Z op,.S aa 2 cap]):=by
     rw[KM aU (by decide) (by simp)];rfl
    refine QEZ bc ⟨_,rfl⟩ bh bd rfl (by decide) rfl (by decide) (by decide) (by decide) ?_;rintro b5 H9 aZ aQ bi ⟨bn,rfl⟩;have az:=(bj.trans ar).trans aQ;have aN:=aO.trans az;have aF:H9.get aa=some (.C (Qm [y,x]) 95):=by rw[aQ.get _ (by have:=ar.y;omega),ar.get _ (by omega)];exact aS
    simp only[Qb,simprocAttr,XK];refine .mk aN.y ⟨?_,aN⟩;rw[aB,Lc bg];refine⟨[.slice a2 2 c2,.S aa 2 cap],rfl,aZ.sl,λj s w ad al=>?_⟩;rcases j with _ | _ | j;·cases ad;cases al;exact⟨av.ext ai az,λn aK=>aH n (by have:=az.y;omega)⟩
    ·cases ad;cases al;refine⟨⟨_,cap,rfl,λ_=>⟨aa,_,_,rfl,aF⟩⟩,λn aK=>?_⟩;have:=bi.lt aF;simp[Qj,Ab.plain];omega
    simp at ad
def QoS {op:Int}{v:Value}{l:List Ar}(H:Qa)(ak:QQ H v l)(ar:l.length<=1000)(ap:∀a∈l,I64 a.n):
  Qe Pg 68 [.agg #[.Z op,v]] H λu H'=>QIa H' u op (Qao op l)∧Ext H H':=by
 refine QmI λal=>?_;obtain⟨a0,cap,rfl⟩:=Wd ak;simp only[QdW,Wu,simprocAttr];generalize ad:Qa.push H _=H1;have g1:H1.get H.y=some (.C [.Z op,.slice a0 l.length cap] 33):=by rw[<- ad,Qc,Lc rfl];rfl
 have an:Ext H H1:=by rw[<- ad];exact(Ext.refl H).push _
 have az:H1.Wf:=by rw[<- ad];exact al.push _
 clear ad;simp only[Qb,simprocAttr,g1];refine(QgA op l H1 _ (ak.ext al an) ar ap).w ?_;rintro _ H2 ay am ⟨ax,aA,rfl,ag,aq⟩;have ah:=an.trans ax;have ai:=λn aj=>QyB (op:=(QT op l).1) ag aq n aj;obtain⟨W,aa⟩:∃W,W=Qao op l:=⟨_,rfl⟩;rw[<- aa];unfold Qao at aa;obtain⟨a2,c2,rfl⟩:=Wd ag;cases ac:(QT op l).2.2==0 with
 | false=>
  rw[ac,Le (by decide)]at aa;simp only[Qb,simprocAttr,ac,XK];have ab:=(ah.push (.C [.Z 0,.slice none 0 0] 33)).set ah.y (.C [.Z (QT op l).1,.slice a2 (QT op l).2.1.length c2] 33);exact .mk ab.y ⟨by rw[aa];exact⟨[],rfl,⟨none,0,rfl,λh=>absurd h (NX 0)⟩,λj s w h=>by simp at h⟩,ab⟩
 | true=>
  rw[ac,Lc rfl]at aa;have ao:=QDi (L0.1 ac);have e1:(QT op l).1=op:=by rw[ao]
  rw[e1]at ai;simp only[Qb,simprocAttr,ac,e1];generalize au:(QT op l).2.1=m at *;generalize ae:(H2.push _).set H2.y _=H3;have ab:Ext H2 H3:=by rw[<- ae];exact((Ext.refl H2).push _).set (Lb _) _
  have av:H3.Wf:=by rw[<- ae];exact(am.push _).set (b0:=.C [.Z 0,.slice none 0 0] 33) (by rw[Qc,Lc rfl]) _
  have g3:H3.get H2.y=some (.C [.Z op,.slice a2 m.length c2] 33):=by rw[<- ae,Qh,Lc rfl]
  clear ae;refine QMG (by rw[<- au];have:=QyC op l;omega) aa (ah.trans ab) av g3 (ag.ext am ab) (λn aj=>ai n (by have:=ab.y;omega)) ?_;simp only[Qf,simprocAttr]
structure GX (v:Value) (H:Qa) (v':Value) (H':Qa):Prop where
 y:H.y<=H'.y
 keep:∀id,id<H.y->¬inB v id->H'.get id=H.get id
 own:∀id,inB v' id->inB v id∨H.y<=id
def QIb {v:Value}{a b:Nat}(aa:inB v a)(ab:inB v b):a=b:=by
 obtain⟨_,_,_,rfl⟩:=aa;obtain⟨_,_,_,h⟩:=ab;cases h;rfl
def GX.refl (v:Value)(H:Qa):GX v H v H:=⟨Lb _,λ_ _ _=>rfl,λ_ h=>.inl h⟩
def GX.trans {v aa ab:Value}{H H' H'':Qa}(h:GX v H aa H')(h':GX aa H' ab H''):GX v H ab H'':=by
 have ac:=h.y;have ad:=h'.y;refine⟨by omega,λid a b=>?_,λid a=>?_⟩;·rw[h'.keep id (by omega) (λc=>by rcases h.own id c with d | d;exact b d;omega),h.keep id a b]
 rcases h'.own id a with b | b;·exact h.own id b
 exact .inr (by omega)
def GX.ext {v:Value}{H H':Qa}(h:Ext H H'):GX v H v H':=⟨h.y,λid a _=>h.get id a,λ_ h=>.inl h⟩
def GX.gk {v aa:Value}{H0 H H':Qa}(h:GK v aa H0 H H'):GX v H aa H':=⟨h.y,h.keep,h.new⟩
def GX.old {v ac:Value}{Hs H H':Qa}(h:GX v H ac H')(hx:Ext Hs H)(ab:∀id,inB v id->Hs.y<=id):Ext Hs H':=
 ⟨by have:=h.y;have:=hx.y;omega,λid aa=>by rw[h.keep id (by have:=hx.y;omega) (λc=>by have:=ab id c;omega)];exact hx.get id aa⟩
def XZ.own {e:TypeId}{H0 H:Qa}{v:Value}{ws:List Ld}(h:XZ e H0 H v ws):∀id,inB v id->H0.y<=id:=λid hi=>by
 obtain⟨ss,ab,aa,ac⟩:=h.it;obtain⟨o,n,c,rfl⟩:=hi;rcases aa with⟨h,_,_⟩ | ⟨b,c',h,q,_⟩;·cases h
 cases h;exact q
def XZ.gx {e:TypeId}{H0 H H':Qa}{v ad u:Value}{ws:List Ld}(h:XZ e H0 H u ws)(ac:H.Wf)(aa:GX v H ad H')(ab:∀id,inB v id->id<H0.y):XZ e H0 H' u ws:=
 h.keep2 ac λid a b=>aa.keep id b λc=>by have:=ab id c;omega
def RgS (A A':Env):Prop:=A' 1=A 1∧A' 7=A 7∧A' 8=A 8∧A' 9=A 9∧A' 15=A 15∧A' 16=A 16∧A' 17=A 17∧A' 21=A 21∧A' 22=A 22∧A' 23=A 23
def Qh5 (k:Int)(w:Ld):Ld:=⟨w.b,k,w.h⟩
section
variable {R:Env->Qa->Prop} {E:Nat->Env->Qa->Prop} {K:Env->Qa->Prop}
def QMH {Hs H Hc:Qa}{ab cs:List Ld}{v aA:Value}{k:Int}{A:Env}(bC:ab.length+cs.length<=1000000)(bz:Ext Hs H)(au:H.Wf){U0:Nat}(aN:LsU 91 Hs H v ab Hc.y)(aK:LsU 91 Hc H aA cs U0)(bd:Hs.y<=Hc.y)(ba:Hc.y<=H.y)(bc:∀id,inB v id->id<Hc.y)(ay:A 5=v)(r8:A 8=.Z k)(b7:A 10=aA)
  (bo:∀A' H' am,A' 5=am->RgS A A'->H'.Wf->LsU 91 Hs H' am (ab++cs.map (Qh5 k)) H'.y->GX v H am H'->K A' H'):
  Qk Pg Qa0 ⟨R,E⟩ K A H:=by
 obtain⟨az,aS,rfl⟩:=aK.ls.slc;obtain⟨ss,br,bj,aL,bm⟩:=aK.it;simp only[Qa0,Qb,simprocAttr,b7];refine Qp (λm A' H'=>∃i:Nat,i<=cs.length∧m=cs.length - i∧H'.Wf∧(∃U,U<=H'.y∧LsU 91 Hs H' (A' 5) (ab++(cs.take i).map (Qh5 k)) U∧∀ (j:Nat) s a,i<=j->ss[j]? = some s->inB s a->U<=a)∧GX v H (A' 5) H'∧A' 36=.slice az cs.length aS∧A' 37=.Z cs.length∧A' 38=.Z i∧RgS A A') cs.length ?_ ?_
 ·refine⟨0,L7 _,by omega,au,?_,?_,?_,?_,?_,?_⟩;·simp only[Qf,simprocAttr,ay,Rb,Bq,Na];refine⟨Hc.y,ba,aN,λj s a _ ak aa=>?_⟩;obtain⟨w,ad⟩:∃w,cs[j]? = some w:=⟨_,La (by have:=(Lk.1 ak).1;omega)⟩;exact((aL j s w ak ad).low au aa).1
  ·simp only[Qf,simprocAttr,ay];exact GX.refl _ _
  ·simp only[Qf,simprocAttr]
  ·simp only[Qf,simprocAttr]
  ·simp only[uxA,uxB,Nat.reduceBEq];rfl
  simp only[RgS,Qf,simprocAttr,RU]
 rintro m A' H' ⟨i,hi,rfl,ad,⟨U,aJ,aq,aO⟩,aj,aQ,aR,ax,aV⟩;simp only[Qhj,Qb,simprocAttr,aR,ax];obtain⟨e1,aH,an,aI,aB,aC,aD,aE,aF,aG⟩:=id aV;refine Qg (λac=>?_) (λac=>?_)
 ·have ac:i<cs.length:=by have:=Lg ac;omega
  have aM:∀ {size e v n cs},Gx size e Hc H v n cs->Gx size e Hc H' v n cs:=λg=>g.keep2 au λid a b=>aj.keep id b λc=>by have:=bc id c;omega
  have b2:=aj.old bz (ay▸aN.ls.own);have bi:=aM bj;have bh:=λj s w a b=>aM (aL j s w a b);obtain⟨b,bA,rfl,bg⟩:∃b,Hc.y<=b∧az=some ⟨b,0,none⟩∧H'.get b=some (.C (ldC ss cs) 91):=by
   rcases bi with⟨h,h',_⟩ | ⟨b,c,h,b5,b6,_⟩;·omega
   cases h;exact⟨b,b5,rfl,b6⟩
  obtain⟨sv,al⟩:∃sv,ss[i]? = some sv:=⟨_,La (by omega)⟩;obtain⟨w,av⟩:∃w,cs[i]? = some w:=⟨_,La ac⟩;have ar:=bh i sv w al av;have aZ:=QsJ ss cs i sv w al av;have bD:(ldC ss cs).length=cs.length * 3:=by rw[QnC _ _ br]
  have d1:(0:Int)<=i∧(i:Int)<cs.length:=by omega
  have d3:(i:Int).toNat=i:=by omega
  have aT:IntKind.i64.wrap ((i:Int)+1)=((i+1:Nat):Int):=by rw[w64 (by unfold I64;omega)];omega
  obtain⟨ae,ag,rfl⟩:=ar.slc;simp only[Qhi,Qb,simprocAttr,aQ,ax,d1,d3,bg,aZ,an,r8];refine⟨by omega,?_⟩;generalize ai:Qa.push (Qa.set (Qa.set (Qa.push H' _) _ _) _ _) _=H5;have ah:Ext H' H5:=by rw[<- ai];exact((((Ext.refl H').push _).set (Lb _) _).set (Lb _) _).push _
  have bx:H5.Wf:=by rw[<- ai];exact(((ad.push _).set (b0:=.C [.slice none 0 0,.Z 0,.Z 0] 91) (by rw[Qc,Lc rfl]) _).set (b0:=.C [.slice ae w.b.length ag,.Z w.x,.Z w.h] 91) (by rw[Qh,Lc rfl]) _).push _
  have aU:H5.get (H'.y+1)=some (.C [.slice ae w.b.length ag,.Z k,.Z w.h] 91):=by rw[<- ai,Qc,Lc (by simp only[Qo,Qd])]
  clear ai;have bu:YX 3 (.S (H'.y+1) 1 1) H5=some (1,[.slice ae w.b.length ag,.Z (Qh5 k w).x,.Z (Qh5 k w).h]):=by
   rw[KM aU (by decide) (by simp)];rfl
  have bE:(ab++(cs.take i).map (Qh5 k)).length<=1000000:=by rw[Lh,Nn,Sb];omega
  have bq:Gx 1 5 Hs H5 (.slice ae w.b.length ag) (Qh5 k w).b.length (bys (Qh5 k w).b):=(ar.go ad ah).down bd;obtain⟨U',aW,b9,aX,aY⟩:∃U',U<=U'∧U'<=H'.y∧(∀a,inB (.slice ae w.b.length ag) a->U<=a∧a<U')∧∀ (j:Nat) s a,i+1<=j->ss[j]? = some s->inB s a->U'<=a:=by
   by_cases aP:∃a,inB (.slice ae w.b.length ag) a
   ·obtain⟨a,aa⟩:=aP;have b8:=aO i _ a (Lb _) al aa;refine⟨a+1,by omega,(ar.low ad aa).2,λb ao=>?_,λj s b bn ak ao=>?_⟩;·rw[QIb ao aa];omega
    obtain⟨p1,p2⟩:=Lk.1 al;obtain⟨b3,b4⟩:=Lk.1 ak;exact BR.1 bm.1 i j p1 b3 (by omega) a b (p2▸aa) (b4▸ao)
   exact⟨U,Lb _,aJ,λa aa=>absurd ⟨a,aa⟩ aP,λj s a bn=>aO j s a (by omega)⟩
  refine QBO (by decide) (aq.go ad ah) aW aX (b2.trans ah) bx bq bu (by omega) (by omega) ?_;intro am H6 bp ap;simp only[Qb,simprocAttr,ax,aT];have bw:ab++(cs.take (i+1)).map (Qh5 k)=ab++(cs.take i).map (Qh5 k)++[Qh5 k w]:=by rw[Nv,av,N6,LQ];rfl
  refine⟨cs.length - (i+1),by omega,i+1,by omega,rfl,ap.w,?_,?_,?_,?_,?_,?_⟩;·simp only[Qf,simprocAttr];rw[bw];exact⟨U',by have:=ah.y;have:=ap.y;omega,bp,aY⟩
  ·simp only[Qf,simprocAttr];exact(aj.trans (GX.ext ah)).trans (GX.gk ap)
  ·simp only[Qf,simprocAttr,aQ]
  ·simp only[Qf,simprocAttr,aR]
  ·simp only[Qf,simprocAttr]
  simp only[RgS,Qf,simprocAttr,e1,aH,an,aI,aB,aC,aD,aE,aF,aG,RU]
 have ac:i=cs.length:=by have:=Ll ac;omega
 subst ac;rw[Nr]at aq;simp only[Qb,simprocAttr];refine bo _ _ _ rfl ?_ ad ?_ ?_;·simp only[RgS,Qf,simprocAttr,e1,aH,an,aI,aB,aC,aD,aE,aF,aG,RU]
 ·simp only[Qf,simprocAttr];exact aq.mono aJ
 simp only[Qf,simprocAttr];exact aj
def frm (L:List Fm)(op:Int)(m:List Ar)(k:Nat):List Ld:=match L[k]? with | some f=>(QoR f op m).map (Qh5 k) | none=>[]
def Qwm (L:List Fm)(op:Int)(m:List Ar)(k:Nat):(frm L op m k).length<=24:=by
 unfold frm;split;·rw[Nn];exact Qwk _ _ _
 simp
def QnE (L:List Fm)(op:Int)(l:List Ar):List Ld:=(Qao op l).flatMap λm=>(List.range L.length).flatMap (frm L op m)
def RgO (A A':Env):Prop:=A' 1=A 1∧A' 15=A 15∧A' 16=A 16∧A' 17=A 17
def QMI {Hs H:Qa}{aj:List Ld}{v aH sv:Value}{xs:List Lf}{op:Int}{m:List Ar}{B:Nat}{A:Env}(b7:aj.length<=500000)(bD:xs.length<=6000)(br:m.length<=1000)(aZ:∀a∈m,I64 a.n)(au:Hs.Wf)(bz:Ext Hs H)(aP:H.Wf)(aN:LsU 91 Hs H v aj H.y)(aI:QmB Hs aH xs)(bj:∀x∈xs,x.Fr 0)(bw:QQ Hs sv m)(bc:∀n,Hs.y<=n->Qj n 6 (.agg #[.Z op,sv])=true)
  (gB:H.get B=some (.C [.Z op,sv] 33)) (hB:¬inB v B) (aT:A 5=v) (ai:A 7=.P B) (ag:A 21=aH) (ah:A 22=.Z xs.length) (ab:A 23=.Z 0)
  (bo:∀A' H' ax,A' 5=ax->RgO A A'->H'.Wf->LsU 91 Hs H' ax (aj++(List.range xs.length).flatMap (frm (xs.map (·.f)) op m)) H'.y->GX v H ax H'->K A' H'):
  Qk Pg (.block 2 (.loop Qa1)) ⟨R,E⟩ K A H:=by
 obtain⟨aV,aW,rfl,bh⟩:=aI.1;have aJ:=aI.2;simp only[Wu,simprocAttr];refine Qp (λq A' H'=>∃i:Nat,i<=xs.length∧q=xs.length - i∧H'.Wf∧LsU 91 Hs H' (A' 5) (aj++(List.range i).flatMap (frm (xs.map (·.f)) op m)) H'.y∧GX v H (A' 5) H'∧A' 7=.P B∧A' 21=.slice aV xs.length aW∧A' 22=.Z xs.length∧A' 23=.Z i∧RgO A A') xs.length ?_ ?_
 ·refine⟨0,L7 _,by omega,aP,?_,?_,ai,ag,ah,ab,?_⟩;·simp only[aT,List.range_zero,DG,Na];exact aN
  ·rw[aT];exact GX.refl _ _
  simp only[RgO,RU]
 rintro q A' H' ⟨i,hi,rfl,ad,ar,ac,ai,ag,ah,ab,aY⟩;obtain⟨e1,an,ao,ap⟩:=id aY;simp only[Qa1,Qb,simprocAttr,ah,ab];refine Qg (λaa=>?_) (λaa=>?_)
 ·have aa:i<xs.length:=by have:=Lg aa;omega
  have aS:=ac.old bz aN.ls.own;obtain⟨b,e,ro,rfl,aM⟩:=bh (by omega);have bn:H'.get b=some (.cells (Wm xs) e ro):=by rw[aS.get _ (au.lt aM)];exact aM
  obtain⟨x,am⟩:∃x,xs[i]? = some x:=⟨_,La aa⟩;have ba:=GA xs i x am;have b8:=WM xs;have d1:(0:Int)<=i∧(i:Int)<xs.length:=by omega
  have d3:(i:Int).toNat=i:=by omega
  have ay:IntKind.i64.wrap ((i:Int)+1)=((i+1:Nat):Int):=by rw[w64 (by unfold I64;omega)];omega
  have aL:H'.get B=some (.C [.Z op,sv] 33):=by rw[ac.keep B (aP.lt gB) hB];exact gB
  have aU:x.cells.take 10=x.cells:=rfl;have lB:=ad.lt aL;have nB:¬B=H'.y:=by omega
  have bg:x.cells++List.drop x.cells.length [.Z 0,.slice none 0 0,.slice none 0 0,.Z 0,.Z 0,.Z 0,.Z 0,.Z 0,.bool false,.Z 0]=x.cells:=Na _;simp only[Qhk,Qb,simprocAttr,ai,ag,ab,d1,d3,bn,ba,aL,nB,bg,aU];refine⟨by omega,⟨rfl,Lb _,?_⟩,Lb _,?_⟩;·exact Zg (aJ x (Ln am))
  generalize aq:Qa.set (Qa.push H' _) _ _=H1;have ak:Ext H' H1:=by rw[<- aq];exact((Ext.refl H').push _).set (Lb _) _
  have bC:H1.Wf:=by rw[<- aq];exact(ad.push _).set (b0:=.C [.Z 0,.slice none 0 0,.slice none 0 0,.Z 0,.Z 0,.Z 0,.Z 0,.Z 0,.bool false,.Z 0] 51) (by rw[Qc,Lc rfl]) _
  clear aq;have ae:=aS.trans ak;have aR:=Ln am;refine(Qwl H1 ((aJ x aR).ext au ae) (bj x aR) (bw.ext au ae) (λn b9=>bc n (by have:=ae.y;omega)) br aZ).w ?_;rintro _ H2 bA aQ ⟨b3,rfl,bd,al⟩;have av:=ak.trans al;have bi:(xs.map (·.f))[i]? = some x.f:=by rw[LD,am];rfl
  have aK:(List.range (i+1)).flatMap (frm (xs.map (·.f)) op m)=(List.range i).flatMap (frm (xs.map (·.f)) op m)++(QoR x.f op m).map (Qh5 i):=by
   rw[R0,Bm];simp only[Ba,DG,Na,frm,bi]
  have aO:LsU 91 Hs H2 (A' 5) _ H1.y:=(ar.go ad av).mono ak.y;simp only[Qb,simprocAttr];cases b2:decide (0<(QoR x.f op m).length) with
  | false=>
   have aX:QoR x.f op m=[]:=N2.1 (by have:=Ll b2;omega);simp only[Qb,simprocAttr,ab,ay];refine⟨xs.length - (i+1),by omega,i+1,by omega,rfl,aQ,?_,?_,?_,?_,?_,?_,?_⟩;·simp only[Qf,simprocAttr];rw[aK,aX,Bq,Na];exact aO.mono al.y
   ·simp only[Qf,simprocAttr];exact ac.trans (GX.ext av)
   ·simp only[Qf,simprocAttr,ai]
   ·simp only[Qf,simprocAttr,ag]
   ·simp only[Qf,simprocAttr,ah]
   ·simp only[Qf,simprocAttr]
   simp only[RgO,Qf,simprocAttr,e1,an,ao,ap,RU]
  | true=>
   simp only[Qb,simprocAttr];have bq:∀id,inB (A' 5) id->id<H1.y:=λid h=>by
    obtain⟨ss,_,bu,_⟩:=ar.it;have:=(bu.low ad h).2;have:=ak.y;omega
   refine QMH (Hs:=Hs) (v:=A' 5) (k:=(i:Int)) ?_ (ae.trans al) aQ aO bd ae.y al.y bq ?_ ?_ ?_ ?_;·have b6:=Qwk x.f op m;have aa:=Qds (f:=frm (xs.map (·.f)) op m) (n:=24) (List.range i) λk _=>Qwm _ _ _ _;rw[BO]at aa;rw[Lh];omega
   ·simp only[Qf,simprocAttr]
   ·simp only[Qf,simprocAttr]
   ·simp only[Qf,simprocAttr]
   rintro A2 H3 bE rfl ⟨az,aG,b4,b5,aA,aB,aC,aD,aE,aF⟩ bx bp bm;simp only[Qf,simprocAttr]at az aG aA aB aC aD aE aF;simp only[Qb,simprocAttr,aF,ab,ay];refine⟨xs.length - (i+1),by omega,i+1,by omega,rfl,bx,?_,?_,?_,?_,?_,?_,?_⟩;·simp only[Qf,simprocAttr];rw[aK,<- LQ];exact bp
   ·simp only[Qf,simprocAttr];exact(ac.trans (GX.ext av)).trans bm
   ·simp only[Qf,simprocAttr,aG,ai]
   ·simp only[Qf,simprocAttr,aD,ag]
   ·simp only[Qf,simprocAttr,aE,ah]
   ·simp only[Qf,simprocAttr]
   simp only[RgO,Qf,simprocAttr,az,aA,aB,aC,e1,an,ao,ap,RU]
 have aa:i=xs.length:=by have:=Ll aa;omega
 subst aa;simp only[Qb,simprocAttr];refine bo _ _ _ rfl ?_ ad ?_ ?_;·simp only[RgO,Qf,simprocAttr,e1,an,ao,ap,RU]
 ·simp only[Qf,simprocAttr];exact ar
 simp only[Qf,simprocAttr];exact ac
end
def QBR (op:Int):∀ (vs:List Value) (i:Nat) (s:Value),vs[i]? = some s->((QyA op vs).drop (i * 2)).take 2=[.Z op,s]
 | [],_,_,h=>by simp at h
 | v::vs,0,_,h=>by cases h;rfl
 | v::vs,i+1,s,h=>by
  have e:QyA op (v::vs)=[.Z op,v]++QyA op vs:=rfl;rw[e,show(i+1) * 2=2+i * 2 by omega,<- Rc];exact QBR op vs i s h
def QyD (op:Int):∀vs:List Value,(QyA op vs).length=vs.length * 2
 | []=>rfl
 | v::vs=>by
  have e:QyA op (v::vs)=[.Z op,v]++QyA op vs:=rfl;rw[e,Lh,QyD op vs,Lo,Lo,Lo,L9];omega
def QAJ {ac:Int×Bool}{a:Ar}(h:I64 a.n):I64 (Zf ac a).1.n:=by
 have aa:I64 0:=by unfold I64;omega
 have ab:I64 (WJ a).1.n:=by
  unfold WJ Qgx;split
  ·split;·exact aa
   split;·exact aa
   exact h
  exact aa
 unfold Zf;simp only;split;·exact h
 split;·exact QrK _ _ _ ab
 exact ab
def QpP {ac:Int×Bool}:∀ {l:List Ar},(∀a∈l,I64 a.n)->∀a∈(Q5 ac l).1,I64 a.n
 | [],_,a,aa=>by cases aa
 | b::l,h,a,aa=>by
  unfold Q5 at aa;split at aa
  ·rcases LK.1 aa with rfl | aa;·exact QAJ (h b (Ny ..))
   exact QpP (λc ab=>h c (NA _ ab)) a aa
  cases aa
def QDk {op:Int}{l:List Ar}(h:∀a∈l,I64 a.n):∀a∈Ja op l,I64 a.n:=by
 have ab:∀a∈l.reverse,I64 a.n:=λa aa=>h a (List.mem_reverse.1 aa);unfold Ja;split
 ·split;·intro a aa;refine h a ?_;simp only[LK,Ns,NN]at aa ⊢;rcases aa with h | h | h<;>simp[h]
  exact h
 split;·exact ab
 split;·exact ab
 exact h
def QAK {op:Int}{l:List Ar}(h:∀a∈l,I64 a.n):∀a∈(QT op l).2.1,I64 a.n:=by
 unfold QT;split;·intro a aa;cases aa
 split;·intro a aa;cases aa
 exact QDk (QpP h)
def QDl {op:Int}{l:List Ar}(ad:∀a∈l,I64 a.n):(Qao op l).length<=2∧∀m∈Qao op l,m.length<=5∧∀a∈m,I64 a.n:=by
 have ab:=QyC op l;have ac:=QAK (op:=op) ad;unfold Qao;split
 ·refine⟨by split<;>simp,λm aa=>?_⟩;rcases LI.1 aa with aa | aa;·rw[Sa]at aa;subst aa;exact⟨ab,ac⟩
  split at aa;·rw[Sa]at aa;subst aa;exact⟨by rw[List.length_reverse];exact ab,λa ae=>ac a (List.mem_reverse.1 ae)⟩
  cases aa
 simp
def QnF {op:Int}{va au:Value}{l:List Ar}{xs:List Lf}(H:Qa)(ax:QQ H va l)(aQ:l.length<=1000)(av:∀a∈l,I64 a.n)(ay:QmB H au xs)(aN:∀x∈xs,x.Fr 0)(bi:xs.length<=6000):
  Qe Pg 37 [.agg #[.Z op,va],au] H λv H'=>LsU 91 H H' v (QnE (xs.map (·.f)) op l) H'.y∧Ext H H':=by
 refine Qtm λai=>?_;obtain⟨a0,cap,rfl⟩:=Wd ax;obtain⟨aH,aI,rfl,_⟩:=id ay.1;simp only[Qkw,Wu,simprocAttr];generalize ac:Qa.push H _=H1;have g1:H1.get H.y=some (.C [.Z op,.slice a0 l.length cap] 33):=by rw[<- ac,Qc,Lc rfl];rfl
 have aC:Ext H H1:=by rw[<- ac];exact(Ext.refl H).push _
 have bq:H1.Wf:=by rw[<- ac];exact ai.push _
 clear ac;simp only[Qb,simprocAttr,g1];refine(QoS H1 (ax.ext ai aC) aQ av).w ?_;rintro sv Hs bn ak ⟨aW,bg⟩;have al:=aC.trans bg;obtain⟨bo,aX⟩:=QDl (op:=op) av;obtain⟨vs,bp,ba,aZ⟩:=aW;obtain⟨an,sc,rfl,aV⟩:=ba;have aF:QnE (xs.map (·.f)) op l=(Qao op l).flatMap λm=>(List.range xs.length).flatMap (frm (xs.map (·.f)) op m):=by unfold QnE;rw[Nn]
 rw[aF];generalize Qao op l=sp at *;simp only[Qb,simprocAttr];refine Qp (λq A' H'=>∃i:Nat,i<=sp.length∧q=sp.length - i∧H'.Wf∧Ext Hs H'∧LsU 91 Hs H' (A' 5) ((sp.take i).flatMap λm=>(List.range xs.length).flatMap (frm (xs.map (·.f)) op m)) H'.y∧A' 1=.slice aH xs.length aI∧A' 15=.slice an sp.length sc∧A' 16=.Z sp.length∧A' 17=.Z i) sp.length ?_ ?_
 ·refine⟨0,L7 _,by omega,ak,.refl _,?_,?_,?_,?_,?_⟩;·simp only[Qf,simprocAttr];exact LsU.nil _ _ _ _
  all_goals simp only[Qf,simprocAttr]
  all_goals rfl
 rintro q A' H' ⟨i,hi,rfl,aj,ae,ab,r1,r15,aE,am⟩;simp only[Qhm,Qb,simprocAttr,aE,am];refine Qg (λaa=>?_) (λaa=>?_)
 ·have aa:i<sp.length:=by have:=Lg aa;omega
  obtain⟨b,e,ro,rfl,az⟩:=aV (by omega);have aP:H'.get b=some (.cells (QyA op vs) e ro):=by rw[ae.get _ (ak.lt az)];exact az
  obtain⟨s,aB⟩:∃s,vs[i]? = some s:=⟨_,La (by omega)⟩;obtain⟨m,ah⟩:∃m,sp[i]? = some m:=⟨_,La aa⟩;have aL:=QBR op vs i s aB;have bj:=QyD op vs;have d1:(0:Int)<=i∧(i:Int)<sp.length:=by omega
  have d3:(i:Int).toNat=i:=by omega
  have aG:IntKind.i64.wrap ((i:Int)+1)=((i+1:Nat):Int):=by rw[w64 (by unfold I64;omega)];omega
  obtain⟨aA,aM⟩:=aZ i s m aB ah;obtain⟨bm,aS⟩:=aX m (Ln ah);obtain⟨an,sc,rfl⟩:=Wd aA;simp only[Qhl,Qb,simprocAttr,r1,r15,am,d1,d3,aP,aL];refine⟨by omega,?_⟩;generalize ad:Qa.set (Qa.push H' _) _ _=H2;have ag:Ext H' H2:=by rw[<- ad];exact((Ext.refl H').push _).set (Lb _) _
  have bc:H2.Wf:=by rw[<- ad];exact(aj.push _).set (b0:=.C [.Z 0,.slice none 0 0] 33) (by rw[Qc,Lc rfl]) _
  have g2:H2.get H'.y=some (.C [.Z op,.slice an m.length sc] 33):=by rw[<- ad,Qh,Lc rfl]
  clear ad;have aT:¬inB (A' 5) H'.y:=λh=>by
   obtain⟨ss,_,aU,_⟩:=ab.it;have:=(aU.low aj h).2;omega
  have aK:((sp.take i).flatMap λm=>(List.range xs.length).flatMap (frm (xs.map (·.f)) op m)).length<=500000:=by
   have aJ:=Qds (f:=λm=>(List.range xs.length).flatMap (frm (xs.map (·.f)) op m)) (n:=144000) (sp.take i) λm _=>by
    have aa:=Qds (f:=frm (xs.map (·.f)) op m) (n:=24) (List.range xs.length) λk _=>Qwm _ _ _ _;rw[BO]at aa;omega
   rw[Sb]at aJ;omega
  refine QMI (Hs:=Hs) (v:=A' 5) (xs:=xs) (m:=m) (B:=H'.y) aK bi (by omega) aS ak (ae.trans ag) bc ((ab.go aj ag).mono ag.y) (ay.ext ai al) aN aA aM g2 aT ?_ ?_ ?_ ?_ ?_ ?_;·simp only[Qf,simprocAttr]
  ·simp only[Qf,simprocAttr]
  ·simp only[Qf,simprocAttr]
  ·simp only[Qf,simprocAttr]
  ·simp only[Qf,simprocAttr]
  rintro A2 H3 br rfl ⟨ao,ap,aq,ar⟩ bd aR aO;simp only[Qf,simprocAttr]at ao ap aq ar;have bh:=aO.old (ae.trans ag) ab.ls.own;have aY:(sp.take (i+1)).flatMap (λm=>(List.range xs.length).flatMap (frm (xs.map (·.f)) op m))=(sp.take i).flatMap (λm=>(List.range xs.length).flatMap (frm (xs.map (·.f)) op m))++(List.range xs.length).flatMap (frm (xs.map (·.f)) op m):=by
   rw[Nv,ah,Bm];simp
  simp only[Qb,simprocAttr,ar,am,aG];refine⟨sp.length - (i+1),by omega,i+1,by omega,rfl,bd,bh,?_,?_,?_,?_,?_⟩;·simp only[Qf,simprocAttr];rw[aY];exact aR
  ·simp only[Qf,simprocAttr,ao,r1]
  ·simp only[Qf,simprocAttr,ap,r15]
  ·simp only[Qf,simprocAttr,aq,aE]
  simp only[Qf,simprocAttr]
 have aa:i=sp.length:=by have:=Ll aa;omega
 subst aa;rw[Nr]at ab;simp only[Qb,simprocAttr,Qr4];have aD:=al.trans ae;exact .mk aD.y ⟨ab.down al.y,aD⟩
def Qka (L:List Fm)(op:Int)(l:List Ar):List Ld×Int:=
 if(Wl op l==0)=false then([],Wl op l) else if(QnE L op l).isEmpty=true then([],8) else(QnE L op l,0)
section
variable {T:Qa->Prop} {L:Int->List Fm} (hT:∀H H',H.Wf->T H->Ext H H'->T H') (hO:∀op H,T H->Qe Pg 36 [.Z op] H λu H'=>QaY H H' u (L op))
include hT hO
def Qwn {op:Int}{va:Value}{l:List Ar}(H:Qa)(au:T H)(ai:QQ H va l)(ax:∀n,H.y<=n->Qj n 6 (.agg #[.Z op,va])=true)(am:l.length<=1000)(ak:∀a∈l,I64 a.n):
  Qe Pg 72 [.agg #[.Z op,va]] H λu H'=>∃v,u=.tuple #[v,.Z (Qka (L op) op l).2]∧LsU 91 H H' v (Qka (L op) op l).1 H'.y∧Ext H H':=by
 refine Qtp λag=>?_;obtain⟨a0,cap,rfl⟩:=Wd ai;obtain⟨W,aa⟩:∃W,W=Qka (L op) op l:=⟨_,rfl⟩;rw[<- aa];unfold Qka at aa;simp only[Qkz,Wu,simprocAttr];generalize ae:Qa.push H _=H1;have g1:H1.get H.y=some (.C [.Z op,.slice a0 l.length cap] 33):=by rw[<- ae,Qc,Lc rfl];rfl
 have an:Ext H H1:=by rw[<- ae];exact(Ext.refl H).push _
 have ay:H1.Wf:=by rw[<- ae];exact ag.push _
 clear ae;simp only[Qb,simprocAttr,g1];refine(Qb2 op _ l H1 (ai.ext ag an) am ak).w ?_;rintro _ _ av aH ⟨rfl,aq,rfl⟩;have ao:Ext H1 (H1.up aq):=(Ext.refl H1).up av;generalize H1.up aq=H2 at *;have ad:=an.trans ao;have g2:H2.get H.y=some (.C [.Z op,.slice a0 l.length cap] 33):=by rw[ao.get _ (ay.lt g1)];exact g1
 simp only[Qb,simprocAttr];cases al:Wl op l==0 with
 | false=>
  rw[al,Lc rfl]at aa;simp only[Qb,simprocAttr,QcJ];exact .mk ad.y ⟨_,by rw[aa],by rw[aa];exact LsU.nil _ _ _ _,ad⟩
 | true=>
  rw[al,Le (by simp)]at aa;simp only[Qb,simprocAttr,g2];refine⟨ax _ ad.y,?_⟩;refine(hO op H2 (hT _ _ ag au ad)).w ?_;rintro aE H3 aF aI ⟨ap,aK,ar,aA,aC,aB⟩;have aj:=ad.trans ap;simp only[Qb,simprocAttr];refine⟨ap.eqB,?_⟩;refine(QnF H3 (ai.ext ag aj) am ak aA.fms (λx hx=>(aB x hx).mono (L7 _)) aC).w ?_;rintro v H4 aG aJ ⟨ac,az⟩;rw[ar]at ac;have ah:=aj.trans az;have ac:=ac.down aj.y;generalize QnE (L op) op l=Q at *;obtain⟨a4,aD,rfl⟩:=ac.ls.slc;simp only[Qb,simprocAttr];refine Qg (λh=>?_) (λh=>?_);·have ab:Q=[]:=N2.1 (by simpa using h);rw[ab,Lc (show([]:List Ld).isEmpty=true from rfl)]at aa;simp only[Qb,simprocAttr,QcJ];exact .mk ah.y ⟨_,by rw[aa],by rw[aa];exact LsU.nil _ _ _ _,ah⟩
  have ab:Q≠[]:=λab=>by rw[ab]at h;simp at h
  rw[Le (by simpa using ab)]at aa;simp only[Qb,simprocAttr,QcJ];exact .mk ah.y ⟨_,by rw[aa],by rw[aa];exact ac,ah⟩
end
def QBS (n:Nat):Option (List Int)->Bool | none=>true | some b=>decide (n<b.length)
def Qjw (w:Int)(ab:List Fm)(aa:Option (List Int))(c:Ld):Option (List Int):=
 if(ab[c.x.toNat]?.elim false λf=>QuG w f c.h)&&QBS c.b.length aa then some c.b else aa
def QIc:Option (List Int)->List Int×Int | none=>([],8) | some b=>(b,0)
def QtR (L:List Fm)(op:Int)(l:List Ar)(w:Int):List Int×Int:=
 if(Wl op l==0)=false then([],Wl op l)
 else if(decide (w<0)||decide (3<w))=true then([],2)
 else QIc ((QnE L op l).foldl (Qjw w L) none)
def QKq {f:Fm}{l:List Ar}{e:List Int}{w c:Ld}(h:c∈QgN f l e w):c.b≠[]:=by
 unfold QgN at h;obtain⟨aa,_,rfl⟩:=N4.1 h;simp
def QKr {f:Fm}{op:Int}{l:List Ar}{c:Ld}(h:c∈QoR f op l):c.b≠[]:=by
 unfold QoR at h;split at h;·obtain⟨w,_,h⟩:=NF.1 h;exact QKq h
 cases h
def QAL (op:Int)(l:List Ar):(Qao op l).length<=2:=by
 unfold Qao;split;·split<;>simp
 simp
def QBT {L:List Fm}{op:Int}{l:List Ar}(ad:L.length<=6000):(QnE L op l).length<=288000:=by
 unfold QnE;have ab:=QAL op l;have ac:=Qds (f:=λm=>(List.range L.length).flatMap (frm L op m)) (n:=144000) (Qao op l) λm _=>by
  have aa:=Qds (f:=frm L op m) (n:=24) (List.range L.length) λk _=>Qwm _ _ _ _;rw[BO]at aa;omega
 omega
def QBU {L:List Fm}{op:Int}{l:List Ar}{c:Ld}(h:c∈QnE L op l):∃m∈Qao op l,∃ (k:Nat) (f:Fm),L[k]? = some f∧∃w∈QoR f op m,c=Qh5 k w:=by
 unfold QnE at h;obtain⟨m,ab,h⟩:=NF.1 h;obtain⟨k,_,h⟩:=NF.1 h;unfold frm at h;split at h;·rename_i f aa;obtain⟨w,ac,rfl⟩:=N4.1 h;exact⟨m,ab,k,f,aa,w,ac,rfl⟩
 cases h
def QyE (H0 H:Qa)(v:Value):Option (List Int)->Prop
 | none=>v=.slice none 0 0
 | some b=>b≠[]∧Gx 1 5 H0 H v b.length (bys b)
def QyE.go {H0 H H':Qa}{v:Value}{o:Option (List Int)}(h:QyE H0 H v o)(aa:H.Wf)(hx:Ext H H'):QyE H0 H' v o:=by
 cases o with
 | none=>exact h
 | some b=>exact⟨h.1,h.2.go aa hx⟩
section
variable {T:Qa->Prop} {L:Int->List Fm} (hT:∀H H',H.Wf->T H->Ext H H'->T H') (hO:∀op H,T H->Qe Pg 36 [.Z op] H λu H'=>QaY H H' u (L op))
include hT hO
def QMJ {op:Int}{va:Value}{l:List Ar}{w:Int}{H H2:Qa}{B:Nat}{W:List Int×Int}(ba:H.Wf)(b4:T H)(aR:QQ H va l)(bE:l.length<=1000)(b2:∀a∈l,I64 a.n)(bc:Ext H H2)(bI:H2.Wf)(g2:H2.get B=some (.C [.Z op,va] 33))
  (ag:W=QIc ((QnE (L op) op l).foldl (Qjw w (L op)) none)) {A:Env} (r1:A 1=.Z w) (r2:A 2=.P B):
  Qk Pg K9 ⟨Rt Pg Tryz.f20 H λu H'=>∃v,u=.tuple #[v,.Z W.2]∧Gx 1 5 H H' v W.1.length (bys W.1)∧Ext H H',Xi⟩ (Rt Pg Tryz.f20 H λu H'=>∃v,u=.tuple #[v,.Z W.2]∧Gx 1 5 H H' v W.1.length (bys W.1)∧Ext H H') A H2:=by
 obtain⟨a0,cap,rfl⟩:=Wd aR;simp only[K9,Qb,simprocAttr,r2,g2];refine(hO op H2 (hT _ _ ba b4 bc)).w ?_;rintro bS H3 bW bJ ⟨bd,ac,ay,bj,bm,bM⟩;have aM:=bc.trans bd;have g3:H3.get B=some (.C [.Z op,.slice a0 l.length cap] 33):=by rw[bd.get _ (bI.lt g2)];exact g2
 simp only[Qb,simprocAttr,r2,g3];refine(QnF H3 (aR.ext ba aM) bE b2 bj.fms (λx hx=>(bM x hx).mono (L7 _)) bm).w ?_;rintro v H4 bX aD ⟨am,bg⟩;have am:=am.ls;rw[ay]at am;have bL:=aM.trans bg;have bO:=bj.fms.ext bJ bg;have bT:(QnE (L op) op l).length<=288000:=QBT (by rw[<- ay,Nn];exact bm);generalize b3:QnE (L op) op l=Q at *;obtain⟨bo,aF,rfl⟩:=am.slc;obtain⟨⟨bz,aG,rfl,b6⟩,b7⟩:=bO;have aC:Qvd Pg 22=true:=by kernel_rfl
 simp only[Qb,simprocAttr];refine Qp (λq A' H'=>∃i:Nat,i<=Q.length∧q=Q.length - i∧H'.Wf∧Ext H4 H'∧QyE H3 H' (A' 8) ((Q.take i).foldl (Qjw w (L op)) none)∧A' 1=.Z w∧A' 7=.slice bz ac.length aG∧A' 27=.slice bo Q.length aF∧A' 28=.Z Q.length∧A' 29=.Z i) Q.length ?_ ?_
 ·refine⟨0,L7 _,by omega,aD,.refl _,?_,?_,?_,?_,?_,?_⟩;·simp only[Qf,simprocAttr];rfl
  all_goals simp only[Qf,simprocAttr,r1]
  all_goals rfl
 rintro q A' H' ⟨i,hi,rfl,an,ae,ab,r1,aq,ao,ap,ak⟩;simp only[QcH,Qb,simprocAttr,ap,ak];refine Qg (λad=>?_) (λad=>?_)
 ·have ad:i<Q.length:=by have:=Lg ad;omega
  obtain⟨ss,bG,bC,bA⟩:=(am.go aD ae).it;obtain⟨b,rfl,b9⟩:∃b,bo=some ⟨b,0,none⟩∧H'.get b=some (.C (ldC ss Q) 91):=by
   rcases bC with⟨h,h',_⟩ | ⟨b,c,h,bQ,bn,_⟩;·omega
   cases h;exact⟨b,rfl,bn⟩
  obtain⟨sv,aZ⟩:∃sv,ss[i]? = some sv:=⟨_,La (by omega)⟩;obtain⟨c,aA⟩:∃c,Q[i]? = some c:=⟨_,La ad⟩;have aJ:=bA i sv c aZ aA;have aS:=QsJ ss Q i sv c aZ aA;have bU:(ldC ss Q).length=Q.length * 3:=by rw[QnC _ _ bG]
  have aT:=Ln aA;rw[<- b3]at aT;obtain⟨m,_,k,f,aB,aa,bH,rfl⟩:=QBU aT;have aX:aa.b≠[]:=QKr bH;have bZ:0<aa.b.length:=Rj.2 aX;have bD:k<ac.length:=by have:=(Lk.1 aB).1;rw[<- ay,Nn]at this;exact this
  obtain⟨y,aN⟩:∃y,ac[k]? = some y:=⟨_,La bD⟩;have bN:y.f=f:=by rw[<- ay,LD,aN]at aB;exact Ly aB
  obtain⟨bf,bx,bR,rfl,aW⟩:=b6 (by omega);have aV:H'.get bf=some (.cells (Wm ac) bx bR):=by rw[ae.get _ (aD.lt aW)];exact aW
  have b5:=GA ac k y aN;have bV:=WM ac;have d1:(0:Int)<=i∧(i:Int)<Q.length:=by omega
  have d2:(0:Int)<=k∧(k:Int)<ac.length:=by omega
  have d3:(i:Int).toNat=i:=by omega
  have d4:(k:Int).toNat=k:=by omega
  have ax:IntKind.i64.wrap ((i:Int)+1)=((i+1:Nat):Int):=by rw[w64 (by unfold I64;omega)];omega
  have aP:(Qh5 (k:Int) aa).x=k:=rfl;have aO:(Qh5 (k:Int) aa).h=aa.h:=rfl;have ah:(Qh5 (k:Int) aa).b=aa.b:=rfl;rw[ah]at aJ;obtain⟨ar,au,rfl⟩:=aJ.slc;have ca:=an.lt aV;have bP:¬bf=H'.y:=by omega
  rw[aP,aO]at aS;simp only[QcG,Qb,simprocAttr,r1,aq,ao,ak,d1,d2,d3,d4,b9,aS,aV,b5,bP];refine⟨by omega,by omega,?_⟩;generalize az:Qa.set (Qa.push H' _) _ _=H5;have bh:Ext H' H5:=by rw[<- az];exact((Ext.refl H').push _).set (Lb _) _
  have bK:H5.Wf:=by rw[<- az];exact(an.push _).set (b0:=.C [.slice none 0 0,.Z 0,.Z 0] 91) (by rw[Qc,Lc rfl]) _
  have aQ:H5.get H'.y=some (.C [.slice ar aa.b.length au,.Z k,.Z aa.h] 91):=by rw[<- az,Qh,Lc rfl]
  clear az;refine(QoO w aa.h H5 ((b7 y (Ln aN)).ext aD (ae.trans bh))).w ?_;rintro _ H6 bY aL ⟨rfl,bi⟩;have aH:H6.get H'.y=some (.C [.slice ar aa.b.length au,.Z k,.Z aa.h] 91):=by rw[bi.get _ (bK.lt aQ)];exact aQ
  have aj:=bh.trans bi;have b8:Gx 1 5 H3 H6 (.slice ar aa.b.length au) aa.b.length (bys aa.b):=aJ.go an aj;have aK:(Q.take (i+1)).foldl (Qjw w (L op)) none=Qjw w (L op) ((Q.take i).foldl (Qjw w (L op)) none) (Qh5 k aa):=by rw[Nv,aA,List.foldl_append];rfl
  generalize (Q.take i).foldl (Qjw w (L op)) none=o at *;have ai:Qjw w (L op) o (Qh5 k aa)=if QuG w y.f aa.h&&QBS aa.b.length o then some aa.b else o:=by
   unfold Qjw;rw[aP,d4,aB,bN,aO,ah];rfl
  simp only[Qb,simprocAttr];cases aY:QuG w y.f aa.h with
  | false=>
   rw[aY,NG,Le (by decide)]at ai;simp only[Qb,simprocAttr,ak,ax];refine⟨Q.length - (i+1),by omega,i+1,by omega,rfl,aL,ae.trans aj,?_,?_,?_,?_,?_,?_⟩;·simp only[Qf,simprocAttr];rw[aK,ai];exact ab.go an aj
   all_goals simp only[Qf,simprocAttr,r1,aq,ao,ap]
  | true=>
   rw[aY,LJ]at ai;have aU:QBS aa.b.length o=true->∀A2:Env,A2 8=.slice ar aa.b.length au->A2 1=.Z w->A2 7=.S bf ac.length aG->A2 27=.S b Q.length aF->A2 28=.Z Q.length->A2 29=.Z (i+1:Nat)->Quj (λq A' H'=>∃i:Nat,i<=Q.length∧q=Q.length - i∧H'.Wf∧Ext H4 H'∧QyE H3 H' (A' 8) ((Q.take i).foldl (Qjw w (L op)) none)∧A' 1=.Z w∧A' 7=.S bf ac.length aG∧A' 27=.S b Q.length aF∧A' 28=.Z Q.length∧A' 29=.Z i) (Q.length - i) A2 H6:=λh A2 a8 a1 a7 bp bq br=>
    ⟨Q.length - (i+1),by omega,i+1,by omega,rfl,aL,ae.trans aj,by rw[aK,ai,Lc h,a8];exact⟨aX,b8⟩,a1,a7,bp,bq,br⟩
   simp only[Qb,simprocAttr];cases o with
   | none=>
    have ab:A' 8=.slice none 0 0:=ab;rw[QjK (a:=none) (n:=0) (c:=0) aC (by simp only[Qf,simprocAttr,ab])];simp only[Qb,simprocAttr,RV,aH,ak,ax];refine aU rfl _ ?_ ?_ ?_ ?_ ?_ ?_
    all_goals simp only[Qf,simprocAttr,r1,aq,ao,ap]
   | some b0=>
    obtain⟨aI,al⟩:=id ab;obtain⟨bu,bw,av⟩:∃b c,A' 8=.S b b0.length c:=by
     rcases al with⟨_,h,_⟩ | ⟨b,c,h,_⟩;·exact absurd (N2.1 h) aI
     exact⟨b,c,h⟩
    rw[QjK (a:=some ⟨bu,0,none⟩) (n:=b0.length) (c:=bw) aC (by simp only[Qf,simprocAttr,av])];simp only[Qb,simprocAttr,Ff,aH,av];refine Qg (λh=>?_) (λh=>?_)
    ·have h:=Lg h;simp only[Qb,simprocAttr,aH,ak,ax];refine aU (by show decide (aa.b.length<b0.length)=true;rw[Lv];omega) _ ?_ ?_ ?_ ?_ ?_ ?_
     all_goals simp only[Qf,simprocAttr,r1,aq,ao,ap]
    have h:=Ll h;have bF:QBS aa.b.length (some b0)=false:=by show decide (aa.b.length<b0.length)=false;rw[NY];omega
    rw[bF,Le (by decide)]at ai;simp only[Qb,simprocAttr,ak,ax];refine⟨Q.length - (i+1),by omega,i+1,by omega,rfl,aL,ae.trans aj,?_,?_,?_,?_,?_,?_⟩;·simp only[Qf,simprocAttr,av];rw[aK,ai];rw[av]at ab;exact ab.go an aj
    all_goals simp only[Qf,simprocAttr,r1,aq,ao,ap]
 have ad:i=Q.length:=by have:=Ll ad;omega
 subst ad;rw[Nr]at ab;simp only[QcF,Qb,simprocAttr];generalize Q.foldl (Qjw w (L op)) none=o at *;have aE:=bL.trans ae;cases o with
 | none=>
  have ab:A' 8=.slice none 0 0:=ab;simp only[QIc]at ag;rw[QjK (a:=none) (n:=0) (c:=0) aC (by simp only[Qf,simprocAttr,ab])];simp only[Qb,simprocAttr,RV,Ym];exact .mk aE.y ⟨_,by rw[ag],by rw[ag];exact .inl ⟨rfl,rfl,rfl⟩,aE⟩
 | some bs=>
  obtain⟨aI,al⟩:=ab;simp only[QIc]at ag;obtain⟨b,c,ah,bQ,bn,cb⟩:∃b c,A' 8=.S b bs.length c∧True∧True∧True:=by
   rcases al with⟨_,h,_⟩ | ⟨b,c,h,_⟩;·exact absurd (N2.1 h) aI
   exact⟨b,c,h,trivial,trivial,trivial⟩
  rw[QjK (a:=some ⟨b,0,none⟩) (n:=bs.length) (c:=c) aC (by simp only[Qf,simprocAttr,ah])];rw[ah]at al;simp only[Qb,simprocAttr,Ff,ah,Ym];exact .mk aE.y ⟨_,by rw[ag],by rw[ag];exact al.down aM.y,aE⟩
def Qqv {op:Int}{va:Value}{l:List Ar}(w:Int)(H:Qa)(ao:T H)(ad:QQ H va l)(au:∀n,H.y<=n->Qj n 6 (.agg #[.Z op,va])=true)(ak:l.length<=1000)(ai:∀a∈l,I64 a.n):
  Qe Pg 20 [.agg #[.Z op,va],.Z w] H λu H'=>∃v,u=.tuple #[v,.Z (QtR (L op) op l w).2]∧Gx 1 5 H H' v (QtR (L op) op l w).1.length (bys (QtR (L op) op l w).1)∧Ext H H':=by
 refine Qoo λag=>?_;obtain⟨a0,cap,rfl⟩:=Wd ad;obtain⟨W,aa⟩:∃W,W=QtR (L op) op l w:=⟨_,rfl⟩;rw[<- aa];unfold QtR at aa;have ae:∀ (H0 H1:Qa),Gx 1 5 H0 H1 (.slice none 0 0) ([]:List Int).length (bys []):=λ_ _=>.inl ⟨rfl,rfl,rfl⟩;simp only[Qfx,Wu,simprocAttr];generalize ac:Qa.push H _=H1;have g1:H1.get H.y=some (.C [.Z op,.slice a0 l.length cap] 33):=by rw[<- ac,Qc,Lc rfl];rfl
 have al:Ext H H1:=by rw[<- ac];exact(Ext.refl H).push _
 have aq:H1.Wf:=by rw[<- ac];exact ag.push _
 clear ac;simp only[Qb,simprocAttr,g1];refine(Qb2 op _ l H1 (ad.ext ag al) ak ai).w ?_;rintro _ _ ap ar ⟨rfl,an,rfl⟩;have am:Ext H1 (H1.up an):=(Ext.refl H1).up ap;generalize H1.up an=H2 at *;have ab:=al.trans am;have g2:H2.get H.y=some (.C [.Z op,.slice a0 l.length cap] 33):=by rw[am.get _ (aq.lt g1)];exact g1
 simp only[Qb,simprocAttr];cases aj:Wl op l==0 with
 | false=>
  rw[aj,Lc rfl]at aa;simp only[Qb,simprocAttr,Ym];exact .mk ab.y ⟨_,by rw[aa],by rw[aa];exact ae _ _,ab⟩
 | true=>
  rw[aj,Le (by simp)]at aa;simp only[QcI,Qb,simprocAttr];cases ah:decide (w<0) with
  | true=>
   rw[ah,N1,Lc rfl]at aa;simp only[Qb,simprocAttr,Ym];exact .mk ab.y ⟨_,by rw[aa],by rw[aa];exact ae _ _,ab⟩
  | false=>
   rw[ah,Nt]at aa;simp only[Qb,simprocAttr];refine Qg (λh=>?_) (λh=>?_);·rw[Lc (by simpa using h)]at aa;simp only[Qb,simprocAttr,Ym];exact .mk ab.y ⟨_,by rw[aa],by rw[aa];exact ae _ _,ab⟩
   rw[Le (by simpa using h)]at aa;simp only[Qb,simprocAttr];refine QMJ hT hO ag ao ad ak ai ab ar g2 aa ?_ ?_
   all_goals simp only[Qf,simprocAttr]
end
