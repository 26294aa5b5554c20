import Derived.Test.YtopkfjiipdjbmaaGreatDoorC0Code
import Derived.Test.YtopkfjiipdjbmaaGreatDoorAbD
import Derived.Test.YtopkfjiipdjbmaaGreatDoorAbC
import Derived.Test.YtopkfjiipdjbmaaGreatDoorLibA
import Derived.Laws.Bits64
import Derived.Lib.IndexLaws
import Derived.Test.YtopkfjiipdjbmaaGreatDoorLibI
set_option linter.unusedVariables false
set_option maxRecDepth 100000
set_option linter.unusedSimpArgs false
set_option maxHeartbeats 4000000
set_option linter.defProp false
noncomputable section
namespace Go.Proofs.YtopkfjiipdjbmaaGreatDoor.code
open Go.Ab
def QCS:FuncId->Option Xk:=λf=>bif Nat.beq f 318 then some .indexByte else bif Nat.beq f 96 then some .noEscape else none
def Qkn:IsExt Pg 318 .indexByte:=⟨_,rfl,by kernel_rfl,by kernel_rfl,by kernel_rfl,by kernel_rfl⟩
def Qmr:IsExt Pg 96 .noEscape:=⟨_,rfl,by kernel_rfl,by kernel_rfl,by kernel_rfl,by kernel_rfl⟩
def QqI:∀f k,QCS f=some k->IsExt Pg f k:=by
 intro f k h;unfold QCS at h;cases b1:Nat.beq f 318 with
 | true=>rw[b1]at h;cases h;rw[LA b1];exact Qkn
 | false=>
  rw[b1,Ls]at h;cases aa:Nat.beq f 96 with
  | true=>rw[aa]at h;cases h;rw[LA aa];exact Qmr
  | false=>rw[aa]at h;cases h
def isV (u:Value):Option (Value×Qa)->Bool
 | some (v,_)=>Qch 6 u v
 | none=>false
def QEu (f:FuncId)(args:List Value)(u:Value):Bool:=isV u ((run Pg (xknown QCS) 200 5 12).fn f args (H0 Pg))
def Qus {f:FuncId}{args:List Value}{u:Value}(aa:entered Pg f=true)(ab:args.all Ab.plain=true)(ae:Ab.plain u=true)(h:QEu f args u=true)(H:Qa):Qe Pg f args H λv H'=>v=u∧H'=H:=by
 unfold QEu isV at h;split at h;·rename_i v H1 ad;have ac:=((Qe1 (xknown_ok QqI) 12).fn f args _ _ H1 ad).does aa;have e:u=v:=GP 6 _ _ h;subst e;exact QeB aa (Qxc ac ab ae H)
 cases h
def QMd {n:Int}(aa:0<=n)(ab:n<18446744073709551616):IntKind.u64.wrap n=n:=by rw[NC];omega
def Qxe (d:Nat):UInt8:=(if d<10 then 48+d else 87+d).toUInt8
def dgs (b u:Nat):List UInt8:=if h:u<b∨b<2 then[Qxe u] else dgs b (u / b)++[Qxe (u % b)]
termination_by u
decreasing_by exact R1 (by omega) (by omega)
def QzQ {b u:Nat}(h:u<b):dgs b u=[Qxe u]:=by rw[dgs,dif_pos (.inl h)]
def QEv {b u:Nat}(h:b<=u)(aa:2<=b):dgs b u=dgs b (u / b)++[Qxe (u % b)]:=by rw[dgs,dif_neg (by omega)]
def QBe (n:Int)(b:Nat)(aa:List UInt8):List UInt8:=(if n<0 then[45] else[])++aa++dgs b n.natAbs
def QeC (n:Int):List UInt8:=QBe n 16 [48,120]
def u8v (l:List UInt8):List Value:=l.map λb=>.int .u8 (b.toNat:Int)
def Qms (l:List UInt8):(u8v l).length=l.length:=by simp[u8v]
def QG6 (b:UInt8):(b.toNat:Int).toNat.toUInt8=b:=by simp
def Qiz:∀l:List UInt8,Y6 (u8v l)=some l
 | []=>rfl
 | b::l=>by
  show(Y6 (u8v l)).map ((b.toNat:Int).toNat.toUInt8::·)=_;rw[Qiz l,QG6];rfl
def QG7 (l:List UInt8):(u8v l).all (·.oneCell')=true:=by
 rw[Li];intro v aa;obtain⟨b,_,rfl⟩:=N4.1 aa;rfl
def Qxf {c l:List Value}{i:Nat}{v:Value}(hi:i<c.length)(aa:c.drop (i+1)=l):(splice c i [v]).drop i=v::l:=by
 unfold splice;rw[RF (by simp;omega),NR (by simp;omega)];simp[aa]
def QIE:∀d,d<36->([48,49,50,51,52,53,54,55,56,57,97,98,99,100,101,102,103,104,105,106,107,108,109,110,111,112,113,114,115,116,117,118,119,120,121,122]:List UInt8)[d]? = some (Qxe d):=by decide
def QK8 {u:Nat}(h:u<18446744073709551616):IntKind.u64.wrap ((BitVec.ofInt IntKind.u64.bits (u:Int) &&& BitVec.ofInt IntKind.u64.bits 15).toNat)=((u % 16:Nat):Int):=by
 have e:(BitVec.ofInt IntKind.u64.bits (u:Int) &&& BitVec.ofInt IntKind.u64.bits 15).toNat=u % 16:=by
  have ac:IntKind.u64.bits=64:=rfl;rw[FK,B7,B7,ac];have aa:((u:Int) % ((2 ^ 64:Nat):Int)).toNat=u:=by omega
  have ab:((15:Int) % ((2 ^ 64:Nat):Int)).toNat=2 ^ 4 - 1:=rfl;rw[aa,ab,Nat.and_two_pow_sub_one_eq_mod]
 rw[e,QMd (by omega) (by omega)]
def QMe (u:Nat):(u:Int).fdiv (2 ^ (min (4:Int).toNat IntKind.u64.bits))=((u / 16:Nat):Int):=by
 have e:(2:Int) ^ (min (4:Int).toNat IntKind.u64.bits)=16:=rfl;rw[e,Np _ (by decide)];rfl
structure Tq (T:Qa->Prop):Prop where
 ext:∀H H',H.Wf->T H->Ext H H'->T H'
 tz:∀H,T H->Qe Pg 139 [.int .u64 16] H λu H'=>u=.Z 4∧H'=H
def QG8 (H:Qa):Qe Pg 138 [.Z 16] H λu H'=>u=.bool true∧H'=H:=
 Qus (by kernel_rfl) rfl rfl (by kernel_rfl) H
def Qvh {T:Qa->Prop}(ah:Tq T)(ac:Nat)(ao:ac<18446744073709551616)(H:Qa)(aC:T H):
  Qe Pg 109 [.slice none 0 0,.int .u64 (ac:Int),.Z 16,.bool false,.bool false] H λv H'=>v=.tuple #[.slice none 0 0,.string (mkS (dgs 16 ac))]∧Ext H H':=by
 refine V9 λaM=>?_;have e1:decide ((16:Int)<2)=false:=rfl;have e2:((16:Int)==10)=false:=rfl;have e3:decide ((36:Int)<16)=false:=rfl;simp only[YN,XR,Yf,sxA,sxB,Nat.reduceBEq,Nat.reduceEqDiff,reduceCtorEq,mxA,mxB,Nat.reduceAdd,reduceIte,Nat.reduceLeDiff,splice,e1,e2,e3];generalize aq:([.int .u8 0,.int .u8 0,.int .u8 0,.int .u8 0,.int .u8 0,.int .u8 0,.int .u8 0,.int .u8 0,.int .u8 0,.int .u8 0,.int .u8 0,.int .u8 0,.int .u8 0,.int .u8 0,.int .u8 0,.int .u8 0,.int .u8 0,.int .u8 0,.int .u8 0,.int .u8 0,.int .u8 0,.int .u8 0,.int .u8 0,.int .u8 0,.int .u8 0,.int .u8 0,.int .u8 0,.int .u8 0,.int .u8 0,.int .u8 0,.int .u8 0,.int .u8 0,.int .u8 0,.int .u8 0,.int .u8 0,.int .u8 0,.int .u8 0,.int .u8 0,.int .u8 0,.int .u8 0,.int .u8 0,.int .u8 0,.int .u8 0,.int .u8 0,.int .u8 0,.int .u8 0,.int .u8 0,.int .u8 0,.int .u8 0,.int .u8 0,.int .u8 0,.int .u8 0,.int .u8 0,.int .u8 0,.int .u8 0,.int .u8 0,.int .u8 0,.int .u8 0,.int .u8 0,.int .u8 0,.int .u8 0,.int .u8 0,.int .u8 0,.int .u8 0,.int .u8 0]:List Value)=c0;have ai:c0.length=65:=by rw[<- aq];rfl
 clear aq;refine(QG8 _).w ?_;rintro _ H1 _ aS ⟨rfl,ab⟩;obtain⟨e,ab⟩:∃e,H1=H.push (.C c0 e):=⟨_,ab⟩;have ap:Ext H H1:=by rw[ab];exact(Ext.refl H).push _
 have aG:H1.get H.y=some (.C c0 e):=by rw[ab,Qc,Lc rfl]
 have aJ:H1.y=H.y+1:=by rw[ab,Qd]
 clear ab;simp only[Ye,Qb,simprocAttr,show IntKind.u64.wrap 16=16 from rfl];refine(ah.tz _ (ah.ext _ _ aM aC ap)).w ?_;rintro _ H2 _ aO ⟨rfl,rfl⟩;simp only[Qb,simprocAttr,show IntKind.u64.wrap 4=4 from rfl];refine Qp (λm A' H'=>∃ (u:Nat) (aa:List UInt8) (c:List Value),u=m∧u<18446744073709551616∧u * 16 ^ aa.length<18446744073709551616∧Ext H H'∧H'.y=H.y+1∧H'.Wf∧H'.get H.y=some (.C c e)∧c.length=65∧(0<u∨aa=[])∧c.drop (65 - aa.length)=u8v aa∧dgs 16 u++aa=dgs 16 ac∧A' 1=.int .u64 (u:Int)∧A' 3=.bool false∧A' 4=.bool false∧A' 12=.P H.y∧A' 13=.Z ((65 - aa.length:Nat):Int)∧A' 10=.slice none 0 0∧A' 14=.int .u64 4∧A' 15=.int .u64 16∧A' 16=.int .u64 15) ac ?_ ?_
 ·refine⟨ac,[],c0,rfl,ao,by simpa using ao,ap,aJ,aO,aG,ai,.inr rfl,by simp[ai,u8v],by simp,?_,?_,?_,?_,?_,?_,?_,?_,?_⟩
  all_goals simp only[Qf,simprocAttr]
  all_goals rfl
 rintro m A' H' ⟨u,aa,c,rfl,aL,aQ,hx,aI,aN,ae,aE,aK,aD,aj,r1,r3,r4,ad,r13,ar,au,r15,av⟩;have aR:aa.length<=15:=by
  rcases aK with h | h
  ·rcases Nq aa.length 16 with ab | ab;·omega
   have aA:16 ^ 16<=16 ^ aa.length:=NP (by decide) ab;have aB:16 ^ aa.length<=u * 16 ^ aa.length:=Fg _ h;omega
  rw[h];simp
 have ag:IntKind.i64.wrap (((65 - aa.length:Nat):Int) - 1)=((65 - (aa.length+1):Nat):Int):=by rw[w64 (by unfold I64;omega)];omega
 have hi:65 - (aa.length+1)<c.length:=by omega
 have aF:c.drop (65 - (aa.length+1)+1)=u8v aa:=by rw[show 65 - (aa.length+1)+1=65 - aa.length by omega];exact aD
 have ay:∀b:UInt8,(splice c (65 - (aa.length+1)) [.int .u8 (b.toNat:Int)]).drop (65 - (aa.length+1))=u8v (b::aa):=λb=>Qxf hi aF;have ax:∀v:Value,(splice c (65 - (aa.length+1)) [v]).length=65:=λv=>by rw[Qez (by simp;omega)];exact aE
 have am:65 - (aa.length+1)+1<=c.length:=by omega
 have an:∀c',Ext H (H'.set H.y (.C c' e)):=λc'=>hx.set (Lb _) _;generalize al:65 - (aa.length+1)=io at *
 by_cases az:16<=u
 ·have e4:decide ((16:Int)<=(u:Int))=true:=Lp (by omega);have aH:u % 16<36:=by omega
  have t1:((u % 16:Nat):Int).toNat=u % 16:=LG _;have t2:(0:Int)<=((u % 16:Nat):Int):=Nz _;have aP:(0:Int)<=4:=by decide
  simp only[WO,Yd,Qb,simprocAttr,r1,r13,r15,av,e4,ag,QK8 aL,Xh,t1,t2,QIE _ aH];rw[Quk (n:=65) (size:=1) (b:=H.y) (o:=0) (i:=io) (ik:=.i64) (by kernel_rfl) (by simp only[Qf,simprocAttr,ad]) (by simp only[Qf,simprocAttr]) (by omega)];simp only[sxA,sxB,Nat.reduceBEq,mxA,mxB,ae,r1,au,QMe,aP,am];refine⟨u / 16,by omega,u / 16,Qxe (u % 16)::aa,splice c io [.int .u8 ((Qxe (u % 16)).toNat:Int)],rfl,by omega,?_,an _,aI,aN.set ae _,by rw[Qh,Lc rfl],ax _,.inl (by omega),?_,?_,?_,?_,?_,?_,?_,?_,?_,?_,?_⟩
  ·rw[Lo,Fc];have ab:u / 16 * 16<=u:=Nat.div_mul_le_self u 16;have aA:u / 16 * 16 * 16 ^ aa.length<=u * 16 ^ aa.length:=Bs _ ab;have aB:u / 16 * (16 ^ aa.length * 16)=u / 16 * 16 * 16 ^ aa.length:=by rw[Hv (16 ^ aa.length) 16,Nat.mul_assoc]
   omega
  ·rw[Lo,al];exact ay _
  ·rw[<- aj,QEv (u:=u) az (by decide),LQ];rfl
  all_goals simp only[Qf,simprocAttr,r3,r4,ad,ar,au,r15,av]
  rw[Lo,al]
 have e4:decide ((16:Int)<=(u:Int))=false:=Lj (by omega);have t1:(u:Int).toNat=u:=LG _;have t2:(0:Int)<=(u:Int):=Nz _;simp only[WO,Qb,simprocAttr,r1,r13,r15,e4,ag,Xh,t1,t2,QIE u (by omega)];rw[Quk (n:=65) (size:=1) (b:=H.y) (o:=0) (i:=io) (ik:=.i64) (by kernel_rfl) (by simp only[Qf,simprocAttr,ad]) (by simp only[Qf,simprocAttr]) (by omega)];simp only[sxA,sxB,Nat.reduceBEq,mxA,mxB,ae,r3,am,Yc,Yb,r4];rw[QCM (n:=65) (size:=1) (b:=H.y) (o:=0) (l:=io) (h:=65) (by kernel_rfl) (by simp only[Qf,simprocAttr,ad]) (.inl (by simp only[QS,Qf,simprocAttr])) (.inr ⟨rfl,rfl⟩) (by omega) (by omega) (by unfold UNK;decide)];simp only[Wu,simprocAttr];have ak:u8v (Qxe u::aa)=u8v (dgs 16 ac):=by rw[<- aj,QzQ (by omega)];rfl
 rw[Qfa (n:=65 - io) (c:=65 - io) (a:=some ⟨H.y,0+io * 1,none⟩) (vs:=u8v (dgs 16 ac)) (bs:=dgs 16 ac) (by kernel_rfl) (by simp only[Qf,simprocAttr]) (by
  simp only[WB];rw[Le (by omega),Qh,Lc rfl];simp only[];rw[Lc (by rw[ax];omega)];simp only[LP,NH];rw[ay,ak,LF];rw[<- ak,Qms,Lo];omega) (Qiz _)]
 simp only[Wu,simprocAttr,VC,ar];exact .mk (by rw[Qo];omega) ⟨rfl,an _⟩
def QiA {T:Qa->Prop}(ab:Tq T)(u:Nat)(ad:u<18446744073709551616)(H:Qa)(ac:T H):Qe Pg 42 [.int .u64 (u:Int),.Z 16] H λv H'=>v=.string (mkS (dgs 16 u))∧Ext H H':=by
 refine QhR λae=>?_;simp only[VP,Qb,simprocAttr];have aa:Qe Pg 73 [.int .u64 (u:Int),.Z 16] H λv H'=>v=.string (mkS (dgs 16 u))∧Ext H H':=by
  refine V8 λae=>?_;have e2:((16:Int)==10)=false:=rfl;simp only[YM,Qb,simprocAttr,e2];refine(Qvh ab u ad H ac).w ?_;rintro _ H1 _ ag ⟨rfl,hx⟩;simp only[Qb,simprocAttr,VB];exact .mk hx.y ⟨rfl,hx⟩
 refine aa.w ?_;rintro _ H1 _ ag ⟨rfl,hx⟩;simp only[Qb,simprocAttr,Qgo];exact .mk hx.y ⟨rfl,hx⟩
def Qod:∀ (n u:Nat),u<16 ^ (n+1)->(dgs 16 u).length<=n+1
 | 0,u,h=>by rw[QzQ (by omega)];simp
 | n+1,u,h=>by
  by_cases aa:16<=u;·rw[QEv aa (by decide),Lh];have:=Qod n (u / 16) (by rw[Fc]at h;omega);simp only[Lo,L9];omega
  rw[QzQ (by omega)];simp
def Kh {T:Qa->Prop}(ac:Tq T)(n:Int)(ae:I64 n)(H:Qa)(ad:T H):Qe Pg 24 [.Z n] H λv H'=>v=.string (mkS (QeC n))∧Ext H H':=by
 refine Qro λai=>?_;have ab:n.natAbs<18446744073709551616:=by unfold I64 at ae;omega
 have ah:(dgs 16 n.natAbs).length<=16:=Qod 15 _ ab;unfold I64 at ae
 by_cases h:n<0
 ·have aa:IntKind.u64.wrap (-(IntKind.u64.wrap n))=(n.natAbs:Int):=by rw[NC,NC];omega
  simp only[Qck,Qb,simprocAttr,Lp h];rw[Qxa (ik:=.u64) (n:=IntKind.u64.wrap n) (by simp only[Qf,simprocAttr])];simp only[Qb,simprocAttr,aa];refine(QiA ac _ ab H ad).w ?_;rintro _ H1 _ ag ⟨rfl,hx⟩;simp only[Qb,simprocAttr,syA,QgQ];exact⟨by omega,.mk hx.y ⟨by simp[QeC,QBe,h],hx⟩⟩
 have aa:IntKind.u64.wrap n=(n.natAbs:Int):=by rw[NC];omega
 simp only[Qck,Qb,simprocAttr,Lj h,aa];refine(QiA ac _ ab H ad).w ?_;rintro _ H1 _ ag ⟨rfl,hx⟩;simp only[Qb,simprocAttr,syA,QgQ];exact⟨by omega,.mk hx.y ⟨by simp[QeC,QBe,h],hx⟩⟩
def Qtd (s:List UInt8)(c:UInt8)(H:Qa):Qe Pg 292 [.string (mkS s),.int .u8 (c.toNat:Int)] H λu H'=>u=.Z (Lib.indexByte s c)∧H'=H:=by
 refine GL λaa=>?_;simp only[XS,Qb,simprocAttr];refine Qum Qkn (v:=.Z (Lib.indexByte s c)) (by simp[Xk.val]) ?_;simp only[Qb,simprocAttr,K5];exact .mk (Lb _) ⟨rfl,rfl⟩
def QEw (s:List UInt8)(c:UInt8)(H:Qa):Qe Pg 142 [.string (mkS s),.string (mkS [c])] H λu H'=>u=.Z (Lib.indexByte s c)∧H'=H:=by
 refine Qn7 λad=>?_;simp only[Qe6,Qb,simprocAttr];have aa:Qe Pg 227 [.string (mkS s),.string (mkS [c])] H λu H'=>u=.Z (Lib.indexByte s c)∧H'=H:=by
  refine QaD λad=>?_;have e1:(((1:Nat):Int)==0)=false:=rfl;have e2:(((1:Nat):Int)==1)=true:=rfl;have e3:(([c]:List UInt8)==([]:List UInt8))=false:=rfl;have t0:(0:Int)<=0:=by decide
  have ah:(0:Int).toNat=0:=rfl;simp only[Y0,Yg,Qb,simprocAttr,Xh];cases ab:([c]:List UInt8)==s with
  | true=>
   have ac:s=[c]:=(L0.1 ab).symm;subst ac;have ag:Lib.indexByte [c] c=0:=by simp[Lib.indexByte]
   simp only[Qb,simprocAttr,YO];exact .mk (Lb _) ⟨by rw[ag],rfl⟩
  | false=>
   simp only[Qb,simprocAttr,Xh,t0,ah];refine(Qtd s c H).w ?_;rintro _ H1 _ ae ⟨rfl,rfl⟩;simp only[Qb,simprocAttr,YO];exact .mk (Lb _) ⟨rfl,rfl⟩
 refine aa.w ?_;rintro _ H1 _ ae ⟨rfl,rfl⟩;simp only[Qb,simprocAttr,Qmo];exact .mk (Lb _) ⟨rfl,rfl⟩
def XT:List UInt8->List (List UInt8)
 | []=>[[]]
 | c::l=>if c=32 then[]::XT l else match XT l with
  | w::ws=>(c::w)::ws
  | []=>[[c]]
def Qpw:∀l:List UInt8,(∀c∈l,c≠32)->XT l=[l]
 | [],_=>rfl
 | c::l,h=>by
  rw[XT,Le (h c (by simp)),Qpw l λd aa=>h d (by simp[aa])]
def QrE:∀a b:List UInt8,(∀c∈a,c≠32)->XT (a++32::b)=a::XT b
 | [],b,_=>by simp[XT]
 | c::a,b,h=>by
  rw[Nm,XT,Le (h c (by simp)),QrE a b λd aa=>h d (by simp[aa])]
def QEx {s:List UInt8}{c:UInt8}(h:Lib.indexByte s c<0):∀d∈s,d≠c:=by
 have aa:Lib.indexByte s c=-1:=by have:=Lib.indexByte_ge s c;omega
 intro d ab ac;obtain⟨k,ad⟩:=Bx.1 ab;exact Lib.indexByte_none aa k (by rw[ad,ac])
def QEy {s:List UInt8}{c:UInt8}{o:Nat}(h:Lib.indexByte s c=o):o<s.length∧s=s.take o++c::s.drop (o+1)∧∀d∈s.take o,d≠c:=by
 obtain⟨ab,ad⟩:=Lib.indexByte_some h;have ac:o<s.length:=(Lk.1 ab).1;refine⟨ac,?_,λd ae ag=>?_⟩
 ·have:s.drop o=c::s.drop (o+1):=by
   rw[Nh ac];congr 1;rw[La ac]at ab;exact Ly ab
  rw[<- this,NW]
 obtain⟨k,aa⟩:=Bx.1 ae;rw[Nl]at aa;split at aa;·rename_i ah;exact ad k ah (by rw[aa,ag])
 cases aa
def Qxg (l:List (List UInt8)):List Value:=l.map λw=>.string (mkS w)
def QEz {l:List (List UInt8)}{i:Nat}{w:List UInt8}(h:l[i]? = some w):(Qxg l)[i]? = some (.string (mkS w)):=by simp[Qxg,h]
def Gs (size:Nat)(e:TypeId)(H0 H:Qa)(v:Value)(n:Nat)(cs:List Value):Prop:=(v=.slice none 0 0∧n=0∧cs=[])∨∃b,v=.S b n (UNK+size)∧H0.y<=b∧H.get b=some (.C cs e)∧cs.length=n * size
def ZZ (v:Value)(id:Nat):Prop:=∃o n c,v=.slice (some ⟨id,o,none⟩) n c
def Gs.ext {size:Nat}{e:TypeId}{H0 H H':Qa}{v:Value}{n:Nat}{cs:List Value}(h:Gs size e H0 H v n cs)(ad:∀id,ZZ v id->H'.get id=H.get id):Gs size e H0 H' v n cs:=by
 rcases h with h | ⟨b,rfl,aa,ab,ac⟩;·exact .inl h
 exact .inr ⟨b,rfl,aa,by rw[ad b ⟨_,_,_,rfl⟩];exact ab,ac⟩
def Gs.low {size:Nat}{e:TypeId}{H0 H:Qa}{v:Value}{n:Nat}{cs:List Value}(h:Gs size e H0 H v n cs)(ac:H.Wf){id:Nat}(hi:ZZ v id):H0.y<=id∧id<H.y:=by
 obtain⟨o,ae,c,rfl⟩:=hi;rcases h with⟨h,_,_⟩ | ⟨b,h,aa,ab,ad⟩;·cases h
 cases h;exact⟨aa,ac.lt ab⟩
def QJt {size:Nat}{e bytes:Nat}{H0 H:Qa}{v x:Value}{n m:Nat}{cs ms:List Value}{k:Value->Qa->Prop}(ap:Gs size e H0 H v n cs)(hx:Ext H0 H)(ad:H.Wf)(ak:YX size x H=some (m,ms))(aj:ms.all (·.oneCell')=true)(av:1<=m)(ah:ms.length=m * size)(aa:(n+m) * bytes<=140737488355328)(am:n+m<=9223372036854775807)
  (h:∀ae H',Gs size e H0 H' ae (n+m) (cs++ms)->Ext H0 H'->H'.Wf->(∀id,id<H.y->¬ZZ v id->H'.get id=H.get id)->H'.y=H.y+1->(∀id,ZZ ae id->id=H.y)->k ae H'):Qdv e size bytes v x H k:=by
 have ai:=hx.y;rcases ap with⟨rfl,rfl,rfl⟩ | ⟨b,rfl,ar,ag,al⟩;·refine Qe2 ak aj (by omega) (by rw[LP]at aa;exact aa) (by omega) (h _ _ (.inr ⟨H.y,by rw[LP],ai,by rw[Qc,Lc rfl,LH],by rw[LH,LP];exact ah⟩) (hx.push _) (ad.push _) (λid ac _=>by rw[Qc,Le (by omega)]) (by rw[Qd]) ?_);rintro id ⟨o,aq,c,ab⟩;cases ab;rfl
 have au:=ad.lt ag;refine Qin rfl ak aj (by omega) ag (by rw[LP];omega) aa am (by omega) (h _ _ (.inr ⟨H.y,rfl,ai,?_,by rw[Lh,al,ah,Ry]⟩) ?_ ?_ ?_ (by rw[Qd,QaN]) ?_);·rw[Qc,QaN,Lc rfl,Lw]
 ·refine⟨by rw[Qd,QaN];omega,λid ac=>?_⟩;rw[Qc,QaN,Le (by omega),Q0,Le (by omega)];exact hx.get id ac
 ·exact(ad.kill b).push _
 ·intro id ac an;have ao:¬id=b:=λh=>an ⟨_,_,_,by rw[h]⟩;rw[Qc,QaN,Le (by omega),Q0,Le ao]
 rintro id ⟨o,aq,c,ab⟩;cases ab;rfl
structure Qmt (tB:TypeId) (H0 H:Qa) (D:Nat) (l:List UInt8) (p v:Value):Prop where
 get:H.get D=some (.C [p,v] tB)
 ptr:p=.pointer none∨p=.P D
 gs:Gs 1 5 H0 H v l.length (u8v l)
 low:H0.y<=D
 apart:¬ZZ v D
 wf:H.Wf
 ext:Ext H0 H
abbrev BAt:=Qmt 104
section
variable {tB:TypeId}
def Qxh (aj:tB=104∨tB=79){H0 H:Qa}{D:Nat}{l:List UInt8}{p v:Value}(ah:Qmt tB H0 H D l p v):Qe Pg 61 [.P D] H λu H'=>u=.tuple #[]∧Qmt tB H0 H' D l (.P D) v∧H'.y=H.y∧∀id,id≠D->H'.get id=H.get id:=by
 refine QaT λak=>?_;obtain⟨aa,ai,ae,ad,ab,ag,hx⟩:=ah;simp only[Zp,Qb,simprocAttr,aa];rcases ai with rfl | rfl;·rw[Qul (a:=none) (by kernel_rfl) (by simp only[Qf,simprocAttr])];simp only[Qb,simprocAttr,RV];rw[QEp (b:=D) (o:=0) (by kernel_rfl) (by simp only[Qf,simprocAttr]) aa (by simp)];simp only[Qb,simprocAttr];refine Qum Qmr (args:=[.P D]) (v:=.P D) rfl ?_;simp only[Qb,simprocAttr];rw[QzM (b:=D) (o:=0) (by rcases aj with rfl | rfl<;>kernel_rfl) (by simp only[Qf,simprocAttr]) aa];simp only[Qb,simprocAttr,aa,Qlr,Qix,YZ];refine .mk (by rw[Qo];exact Lb _) ⟨rfl,⟨by rw[Qh,Lc rfl],.inr rfl,ae.ext λid ac=>?_,ad,ab,ag.set aa _,hx.set ad _⟩,by rw[Qo],λid ac=>by rw[Qh,Le ac]⟩;have:id≠D:=λh=>ab (by rw[<- h];exact ac);rw[Qh,Le this]
 rw[Qul (a:=some ⟨D,0,none⟩) (by kernel_rfl) (by simp only[Qf,simprocAttr])];simp only[Qb,simprocAttr,Ff,aa];rw[QCN (b:=D) (o:=0) (by kernel_rfl) (by simp only[Qf,simprocAttr]) (by simp only[Qf,simprocAttr])];simp only[Qb,simprocAttr,YZ];exact .mk (Lb _) ⟨rfl,⟨aa,.inr rfl,ae,ad,ab,ag,hx⟩,rfl,λ_ _=>rfl⟩
structure Gw (D:Nat) (v v':Value) (H H':Qa):Prop where
 y:H.y<=H'.y
 keep:∀id,id<H.y->id≠D->¬ZZ v id->H'.get id=H.get id
 new:∀id,ZZ v' id->ZZ v id∨H.y<=id
def Gw.refl (D:Nat)(v:Value)(H:Qa):Gw D v v H H:=⟨Lb _,λ_ _ _ _=>rfl,λ_ h=>.inl h⟩
def Gw.trans {D:Nat}{v ad ae:Value}{H H' H'':Qa}(h:Gw D v ad H H')(h':Gw D ad ae H' H''):Gw D v ae H H'':=by
 have ah:=h.y;have ai:=h'.y;refine⟨by omega,λid ag ab ac=>?_,λid hi=>?_⟩
 ·rw[h'.keep id (by omega) ab (λhi=>?_)];·exact h.keep id ag ab ac
  rcases h.new id hi with aa | aa;·exact ac aa
  omega
 rcases h'.new id hi with aa | aa;·exact h.new id aa
 exact .inr (by omega)
def Gw.pre {D:Nat}{v ab:Value}{H H1 H':Qa}(hx:Ext H H1)(h:Gw D v ab H1 H'):Gw D v ab H H':=by
 have ag:=hx.y;have ah:=h.y;exact⟨by omega,λid ac ad ae=>by rw[h.keep id (by omega) ad ae];exact hx.get id ac,λid hi=>by rcases h.new id hi with aa | aa;exact .inl aa;exact .inr (by omega)⟩
def Gw.post {D:Nat}{v aa:Value}{H H1 H':Qa}(h:Gw D v aa H H1)(hx:Ext H1 H'):Gw D v aa H H':=by
 have ae:=hx.y;have ag:=h.y;exact⟨by omega,λid ab ac ad=>by rw[hx.get id (by omega)];exact h.keep id ab ac ad,h.new⟩
def Qmt.go {H0 H H':Qa}{D:Nat}{l:List UInt8}{p v:Value}(h:Qmt tB H0 H D l p v)(hx:Ext H H')(ab:H'.Wf):Qmt tB H0 H' D l p v:=by
 have ac:=hx.y;have ad:=h.ext.y;refine⟨by rw[hx.get _ (h.wf.lt h.get)];exact h.get,h.ptr,h.gs.ext λid aa=>hx.get id (h.gs.low h.wf aa).2,h.low,h.apart,ab,⟨by omega,λid aa=>by rw[hx.get id (by omega)];exact h.ext.get id aa⟩⟩
def QEA (tB:TypeId)(H0 H:Qa)(D:Nat)(l:List UInt8)(v:Value)(H':Qa):Prop:=∃ab aa,Qmt tB H0 H' D l ab aa∧Gw D v aa H H'
def QG9 {H0 H:Qa}{D:Nat}{l m:List UInt8}{v x:Value}{k:Value->Qa->Prop}(ab:Qmt tB H0 H D l (.P D) v)(ar:YX 1 x H=some (m.length,u8v m))(aG:l.length+m.length<=140737488355328)
  (h:∀aa H',H'.get D=some (.C [.P D,v] tB)->Qmt tB H0 (H'.set D (.C [.P D,aa] tB)) D (l++m) (.P D) aa->(∃b n c,aa=.slice b n c)->H.y<=H'.y->Gw D v aa H (H'.set D (.C [.P D,aa] tB))->k aa H'):Qdv 5 1 1 v x H k:=by
 have aF:=ab;obtain⟨ac,aA,ad,ae,ak,ah,hx⟩:=ab;have au:=ah.lt ac
 by_cases ay:1<=m.length
 ·refine QJt ad hx ah ar (QG7 m) ay (by rw[Qms];omega) (by omega) (by omega) ?_;intro aa H' an aD aC ao aH ap;have am:H'.get D=some (.C [.P D,v] tB):=by rw[ao D au ak];exact ac
  have al:¬ZZ aa D:=λhi=>by have:=ap D hi;omega
  refine h aa H' am ⟨by rw[Qh,Lc rfl],.inr rfl,?_,ae,al,aC.set am _,aD.set ae _⟩ ?_ (by omega) ⟨by rw[Qo];omega,λid ai ag aj=>by rw[Qh,Le ag];exact ao id ai aj,λid hi=>.inr (by have:=ap id hi;omega)⟩
  ·have e1:u8v (l++m)=u8v l++u8v m:=by simp[u8v]
   rw[e1,Lh];refine an.ext λid ax=>?_;have:id≠D:=λh=>al (by rw[<- h];exact ax);rw[Qh,Le this]
  rcases an with⟨_,aE,_⟩ | ⟨b,ab,_⟩;·omega
  exact⟨_,_,_,ab⟩
 have az:m=[]:=N2.1 (by omega);subst az;have aB:∃b n c,v=.slice b n c:=by
  rcases ad with⟨rfl,_⟩ | ⟨b,ab,_⟩;·exact⟨_,_,_,rfl⟩
  exact⟨_,_,_,ab⟩
 have av:Y7 5 1 1 v x H=some (v,H):=by
  unfold Y7;rw[ar];rcases ad with⟨rfl,_⟩ | ⟨b,ab,_⟩;·rfl
  subst ab;simp only[u8v,Bq,BI,N3,L9];rw[Lc (.inl (Ro _ _))]
 unfold Qdv;rw[av,Qs];have aq:(H.set D (.C [.P D,v] tB)).get=H.get:=by
  funext id;rw[Qh];split;·rename_i e;rw[e];exact ac.symm
  rfl
 refine h v H ac ?_ aB (Lb _) ⟨by rw[Qo];omega,λid ai ag aj=>by rw[Qh,Le ag],λid hi=>.inl hi⟩;rw[Na];exact⟨by rw[aq];exact ac,aA,ad.ext λid _=>by rw[aq],ae,ak,ah.set ac _,hx.set ae _⟩
def Qcp (am:tB=104∨tB=79){H0 H:Qa}{D:Nat}{l m:List UInt8}{p v:Value}(ae:Qmt tB H0 H D l p v)(aj:l.length+m.length<=140737488355328):Qe Pg 33 [.P D,.string (mkS m)] H λu H'=>(∃x y,u=.tuple #[x,y])∧QEA tB H0 H D (l++m) v H':=by
 refine V7 λao=>?_;simp only[YL,Qb,simprocAttr];refine(Qxh am ae).w ?_;rintro _ H1 _ ap ⟨rfl,ac,ak,ai⟩;have ag:=ac.get;simp only[Qb,simprocAttr,ag];refine QG9 ac (m:=m) (by simp[YX,X6,QjB,u8v,mkS,ByteArray.size]) aj ?_;intro aq H' ah ab ⟨b,n,c,hv'⟩ hn' hst;subst hv';have al:=ab.ext.y;rw[Qo]at al;simp only[Qb,simprocAttr,ah,VA];refine .mk (by rw[Qo];omega) ⟨⟨_,_,rfl⟩,_,_,ab,⟨by rw[Qo];omega,λid an aa ad=>?_,λid hi=>by have:=hst.new id hi;rw[ak]at this;exact this⟩⟩;rw[hst.keep id (by omega) aa ad,ai id aa]
def QJu (l:List UInt8):(u8v l).all QDT=true:=by
 rw[Li];intro v aa;obtain⟨b,_,rfl⟩:=N4.1 aa;have:=b.toNat_lt;simp[QDT];omega
def Qut {H0 H:Qa}{D:Nat}{l:List UInt8}{p v:Value}(ad:Qmt tB H0 H D l p v)(ah:1<=l.length)(ak:l.length<=140737488355328):Qe Pg 34 [.P D] H λu H'=>u=.string (mkS l)∧Ext H0 H':=by
 refine Qdw λao=>?_;obtain⟨aa,an,ae,al,aj,ap,hx⟩:=ad;simp only[JJ,Qb,simprocAttr,aa];have am:=hx.y;rcases ae with⟨rfl,ag,_⟩ | ⟨b,rfl,ab,ac,ai⟩;·omega
 have e:(l.length:Int)=((u8v l).length:Int):=by rw[Qms]
 rw[QzN (a:=some ⟨b,0,none⟩) (n:=l.length) (c:=UNK+1) (by simp only[Qf,simprocAttr]) (.inr (by omega))];simp only[Qb,simprocAttr,aa];rw[QCO (e:=5) (b:=b) (by kernel_rfl) (by simp only[Qf,simprocAttr]) (by simp only[Qf,simprocAttr];rw[e]) ac (by rw[Qms];omega) (by rw[Qms];omega) (QJu l) (Qiz l)];simp only[Qb,simprocAttr,Qcm];exact .mk (by rw[Qo];exact Lb _) ⟨rfl,hx.set ab _⟩
end
abbrev QrF:=QEA 104
def Qte:=@Qcp 104 (.inl rfl)
def Qvo:Value->Bool
 | .agg xs=>xs.toList.all Ab.plain
 | v=>Ab.plain v
def QK9 {τ:Nat->Nat}{n:Nat}{v:Value}(h:Qvo v=true):Qgr τ n v v:=by
 unfold Qvo at h;split at h
 ·rename_i xs;have e:Value.agg xs=Value.agg xs.toList.toArray:=by simp
  rw[e];refine Qgr.agg rfl λj x y hx aa=>?_;rw[hx]at aa;cases aa;exact Qgr.plain (Li.1 h x (Ln hx))
 exact Qgr.plain h
def Qxm {ad:CallF}(aj:CallOk Pg ad){F G k:Nat}{f:FuncId}{args:List Value}{tabs:List Tab}{u:Value}(am:tabsOk tabs=true)(ac:entered Pg f=true)(ag:args.all Qvo=true)(an:Ab.plain u=true)(h:isV u ((run Pg ad F G k).fn f args (Xs Pg.globals.size tabs))=true)(H:Qa)(ae:Qco tabs H=true):Qe Pg f args H λv H'=>v=u∧H'=H:=by
 unfold isV at h;split at h
 ·rename_i v H1 ak;have ah:=((Qe1 aj k).fn f args _ _ H1 ak).does ac;have e:u=v:=GP 6 _ _ h;subst e;refine QeB ac (QCR (args:=args) (args2:=args) (τ:=λn=>n) ah an (Lb _) (λ_ _=>rfl) (λid b ab=>?_) rfl λj x y hx aa=>?_);·have ai:=Qls ae id b ab;obtain⟨t,al,rfl,rfl⟩:=Yh ab;refine⟨t.c,t.e,t.c,t.e,true,rfl,ai,rfl,λj x y hx aa=>?_⟩;rw[hx]at aa;cases aa;exact Qgr.plain (Li.1 (Li.1 am t al) x (Ln hx))
  rw[hx]at aa;cases aa;exact QK9 (Li.1 ag x (Ln hx))
 cases h
def QIF:List (List (List UInt8)):=[[],[[97,108],[99,108],[100,108],[98,108],[115,112,108],[98,112,108],[115,105,108],[100,105,108],[114,56,98],[114,57,98],[114,49,48,98],[114,49,49,98],[114,49,50,98],[114,49,51,98],[114,49,52,98],[114,49,53,98]],[[97,104],[99,104],[100,104],[98,104]],[[97,120],[99,120],[100,120],[98,120],[115,112],[98,112],[115,105],[100,105],[114,56,119],[114,57,119],[114,49,48,119],[114,49,49,119],[114,49,50,119],[114,49,51,119],[114,49,52,119],[114,49,53,119]],[[101,97,120],[101,99,120],[101,100,120],[101,98,120],[101,115,112],[101,98,112],[101,115,105],[101,100,105],[114,56,100],[114,57,100],[114,49,48,100],[114,49,49,100],[114,49,50,100],[114,49,51,100],[114,49,52,100],[114,49,53,100]],[[114,97,120],[114,99,120],[114,100,120],[114,98,120],[114,115,112],[114,98,112],[114,115,105],[114,100,105],[114,56],[114,57],[114,49,48],[114,49,49],[114,49,50],[114,49,51],[114,49,52],[114,49,53]],[[120,109,109,48],[120,109,109,49],[120,109,109,50],[120,109,109,51],[120,109,109,52],[120,109,109,53],[120,109,109,54],[120,109,109,55],[120,109,109,56],[120,109,109,57],[120,109,109,49,48],[120,109,109,49,49],[120,109,109,49,50],[120,109,109,49,51],[120,109,109,49,52],[120,109,109,49,53]],[[121,109,109,48],[121,109,109,49],[121,109,109,50],[121,109,109,51],[121,109,109,52],[121,109,109,53],[121,109,109,54],[121,109,109,55],[121,109,109,56],[121,109,109,57],[121,109,109,49,48],[121,109,109,49,49],[121,109,109,49,50],[121,109,109,49,51],[121,109,109,49,52],[121,109,109,49,53]],[[114,105,112]]]
def Qad (r:Rg):List UInt8:=if WC r=true then(QIF.getD r.c.toNat []).getD (r.n - (Qgw r.c).1).toNat [] else[]
def QLa (c:Nat):Nat:=if c=2 then 4 else if c=8 then 1 else if c=0 then 0 else if 8<c then 0 else 16
def QJv (c:Nat):Nat:=if c=2 then 4 else 0
def Qxn:List (Nat×Nat):=(List.range 9).flatMap λc=>(List.range (QLa c)).map λn=>(c,QJv c+n)
def QEB {r:Rg}(h:WC r=true):∃p∈Qxn,r=⟨p.1,p.2⟩:=by
 obtain⟨c,n⟩:=r;unfold WC Qgw at h;have h:=Lg h;have ab:1<=c∧c<=8:=by
  simp only at h
  repeat' (split at h)
  all_goals (simp only at h;omega)
 obtain⟨k,rfl⟩:∃k:Nat,c=k:=⟨c.toNat,by omega⟩;have aa:k=1∨k=2∨k=3∨k=4∨k=5∨k=6∨k=7∨k=8:=by omega
 have ac:0<=n:=by
  simp only at h
  repeat' (split at h)
  all_goals (simp only at h;omega)
 obtain⟨m,rfl⟩:∃m:Nat,n=m:=⟨n.toNat,by omega⟩;refine⟨(k,m),?_,rfl⟩;unfold Qxn;rw[NF];refine⟨k,LU.2 (by omega),?_⟩;rw[N4];refine⟨m - QJv k,LU.2 ?_,?_⟩
 all_goals (rcases aa with rfl | rfl | rfl | rfl | rfl | rfl | rfl | rfl<;>simp[QJv,QLa]at h ⊢<;>omega)
def Qcx (r:Rg):(Qad r).length<=5:=by
 cases h:WC r with
 | true=>
  obtain⟨p,aa,rfl⟩:=QEB h;have:(Qxn.all λp=>Nat.ble (Qad ⟨p.1,p.2⟩).length 5)=true:=by decide +kernel
  have:=Li.1 this p aa;simpa using this
 | false=>unfold Qad;rw[h];simp
def QIG (T:Qa->Prop):Prop:=∀p∈Qxn,∀H,T H->Qe Pg 80 [.agg #[.Z p.1,.Z p.2]] H λu H'=>u=.string (mkS (Qad ⟨p.1,p.2⟩))∧H'=H
def Qlu {T:Qa->Prop}(aa:QIG T)(r:Rg)(ad:WC r=true)(H:Qa)(ab:T H):Qe Pg 80 [.agg r.cells.toArray] H λu H'=>u=.string (mkS (Qad r))∧H'=H:=by
 obtain⟨p,ac,rfl⟩:=QEB ad;exact aa p ac H ab
def Qvp {H0 H:Qa}{D:Nat}{l:List UInt8}{p v:Value}(aa:BAt H0 H D l p v){id:Nat}(hi:ZZ v id):id<H.y:=(aa.gs.low aa.wf hi).2
def QCT (ws:List (List UInt8))(i:Nat)(w:List UInt8)(h:ws[i]? = some w):(ws.take (i+1)).flatten=(ws.take i).flatten++w:=by
 have hi:=(Lk.1 h).1;rw[Nv,h];simp
def QHb (ws:List (List UInt8))(i:Nat):((ws.take i).flatten).length<=(ws.flatten).length:=by
 have h:ws.flatten=(ws.take i).flatten++(ws.drop i).flatten:=by rw[<- List.flatten_append,NW]
 rw[h,Lh];omega
def QLb {H0 H:Qa}{D:Nat}{l:List UInt8}{p v:Value}(am:BAt H0 H D l p v)(ws:List (List UInt8)){b:Nat}{e:TypeId}{ro:Bool}{cap:Nat}(ai:H.get b=some (.cells (Qxg ws) e ro))(ao:b≠D)(aq:¬ZZ v b)(aA:l.length+ws.flatten.length<=1000000)(aB:ws.length<=1000):
  Qe Pg 44 [.P D,.S b ws.length cap] H λu H'=>u=.P D∧QrF H0 H D (l++ws.flatten) v H':=by
 refine Qmm λay=>?_;simp only[QdL,Wu,simprocAttr];refine Qp (λm A' H'=>∃ (i:Nat) (ae ac:Value),i<=ws.length∧m=ws.length - i∧BAt H0 H' D (l++(ws.take i).flatten) ae ac∧Gw D v ac H H'∧A' 0=.P D∧A' 7=.S b ws.length cap∧A' 8=.Z ws.length∧A' 9=.Z i) ws.length ?_ ?_
 ·refine⟨0,p,v,L7 _,by omega,by simpa using am,.refl _ _ _,?_,?_,?_,?_⟩
  all_goals simp only[uxA,uxB,Nat.reduceBEq]
  rfl
 rintro m A' H' ⟨i,ae,ac,hi,rfl,ad,ab,r0,ak,r8,ag⟩;simp only[Qbh,Wu,simprocAttr,r8,ag];refine Qg (λaa=>?_) (λaa=>?_)
 ·have aa:i<ws.length:=by have:=Lg aa;omega
  obtain⟨w,aj⟩:∃w,ws[i]? = some w:=⟨_,La aa⟩;have ap:=ay.lt ai;have au:H'.get b=some (.cells (Qxg ws) e ro):=by rw[ab.keep b ap ao aq];exact ai
  have av:=QEz aj;have d1:(0:Int)<=i∧(i:Int)<ws.length:=by omega
  have d3:(i:Int).toNat=i:=by omega
  have al:IntKind.i64.wrap ((i:Int)+1)=((i+1:Nat):Int):=by rw[w64 (by unfold I64;omega)];omega
  have ar:=QHb ws (i+1);have ah:=QCT ws i w aj;simp only[Qbg,Qb,simprocAttr,r0,ak,ag,d1,d3,au,av,Nf];refine(Qte ad (m:=w) (by rw[Lh];rw[ah,Lh]at ar;omega)).w ?_;rintro _ H2 aC aD ⟨⟨x,y,rfl⟩,p2,az,an,ax⟩;simp only[Wu,simprocAttr,ag,al];refine⟨ws.length - (i+1),by omega,i+1,p2,az,by omega,rfl,?_,ab.trans ax,?_,?_,?_,?_⟩;·rw[ah,<- LQ];exact an
  all_goals simp only[Qf,simprocAttr,r0,ak,r8]
 have aa:i=ws.length:=by have:=Ll aa;omega
 subst aa;rw[Nr]at ad;simp only[Wu,simprocAttr,r0,Qlp];exact .mk ab.y ⟨rfl,ae,ac,ad,ab⟩
def K8 {H0 H:Qa}{D:Nat}{l:List UInt8}{p v:Value}(aa:BAt H0 H D l p v)(ws:List (List UInt8))(n:Nat)(ae:n=ws.length)(ad:l.length+ws.flatten.length<=1000000)(ag:ws.length<=1000):
  Qe Pg 44 [.P D,.S H.y n n] (H.push (.C (Qxg ws) 9)) λu H'=>u=.P D∧QrF H0 H D (l++ws.flatten) v H':=by
 subst ae;have aj:=aa.wf.lt aa.get;have hx:=(Ext.refl H).push (.C (Qxg ws) 9);refine(QLb (cap:=ws.length) (aa.go hx (aa.wf.push _)) ws (b:=H.y) (by rw[Qc,Lc rfl]) (by omega) (λhi=>?_) ad ag).mono ?_;·have:=Qvp aa hi;omega
 rintro u H' ⟨rfl,ah,ai,ab,ac⟩;exact⟨rfl,ah,ai,ab,ac.pre hx⟩
def QEC {H0 H:Qa}{D:Nat}{l:List UInt8}{p v:Value}(ad:BAt H0 H D l p v)(f:Bool)(a b:List UInt8)(ah:l.length+a.length+b.length<=1000000):
  Qe Pg 46 [.P D,.bool f,.string (mkS a),.string (mkS b)] H λu H'=>u=.P D∧QrF H0 H D (l++(bif f then a else b)) v H':=by
 refine Qlq λai=>?_;cases f with
 | true=>
  simp only[K4,Qb,simprocAttr,syA];refine(K8 ad [a] 1 rfl (by simp;omega) (by simp)).w ?_;rintro _ H2 ae ag ⟨rfl,p2,ac,ab,aa⟩;simp only[Wu,simprocAttr,Qbi];exact .mk aa.y ⟨rfl,p2,ac,by simpa using ab,aa⟩
 | false=>
  simp only[K4,Qb,simprocAttr,syA];refine(K8 ad [b] 1 rfl (by simp;omega) (by simp)).w ?_;rintro _ H2 ae ag ⟨rfl,p2,ac,ab,aa⟩;simp only[Wu,simprocAttr,Qbi];exact .mk aa.y ⟨rfl,p2,ac,by simpa using ab,aa⟩
def QpA (n:Int):List UInt8:=if(n==1)=true then[98,121,116,101,32] else if(n==2)=true then[119,111,114,100,32] else if(n==4)=true then[100,119,111,114,100,32] else if(n==8)=true then[113,119,111,114,100,32] else if(n==16)=true then[111,119,111,114,100,32] else if(n==32)=true then[121,119,111,114,100,32] else[]
def Quu (n:Int):(QpA n).length<=6:=by unfold QpA;repeat' (split<;>try decide)
def Qvq (n:Int)(H:Qa):Qe Pg 114 [.Z n] H λu H'=>u=.string (mkS (QpA n))∧H'=H:=by
 refine Qs7 λaa=>?_;unfold QpA;simp only[Qkj,QgX,QgY,QgZ,Qg0,Wu,simprocAttr]
 repeat' (first
  | (refine Qg (λh=>?_) (λh=>?_)<;>simp only[Wu,simprocAttr,h,Qrp,N3,LN,LV])
  | fail)
 all_goals exact .mk (Lb _) ⟨rfl,rfl⟩
def Qxo (n:Nat):List UInt8:=[(48+n).toUInt8]
def QHc:((List.range 10).all λn=>QEu 115 [.Z n] (.string (mkS (Qxo n))))=true:=by kernel_rfl
def QJw (n:Nat)(aa:n<10)(H:Qa):Qe Pg 115 [.Z n] H λu H'=>u=.string (mkS (Qxo n))∧H'=H:=
 Qus (by kernel_rfl) rfl rfl (Li.1 QHc n (LU.2 aa)) H
def Z9 (n:Int)(h:I64 n):(QeC n).length<=20:=by
 have aa:=Qod 15 n.natAbs (by unfold I64 at h;omega);unfold QeC QBe;simp only[Lh];split<;>simp<;>omega
def VU (a:List UInt8):[a].flatten=a:=Na a
def QpC (a b:List UInt8):[a,b].flatten=a++b:=by rw[List.flatten_cons,VU]
def Qkt (a b c:List UInt8):[a,b,c].flatten=a++(b++c):=by rw[List.flatten_cons,QpC]
def QCU (f:Bool)(m:Mm):List UInt8:=bif f then QeC m.d else bif decide (0<m.d) then[32,43,32]++QeC m.d else bif decide (m.d<0) then[32,45,32]++QeC (-m.d) else[]
def QED (m:Mm):List UInt8:=bif isR m.b 0 0 then[] else Qad m.b
def QHd (f:Bool)(m:Mm):List UInt8:=bif isR m.i 0 0 then[] else(bif f then[] else[32,43,32])++(Qad m.i++([42]++Qxo m.sc.toNat))
def Qog (m:Mm):List UInt8:=
 QpA m.sz++[91]++QED m++QHd (isR m.b 0 0) m ++
  QCU (isR m.b 0 0&&isR m.i 0 0) m++[93]
structure MOk (m:Mm):Prop where
 b:isR m.b 0 0=false->WC m.b=true
 i:isR m.i 0 0=false->WC m.i=true∧0<=m.sc∧m.sc<10
 d:-2147483648<=m.d∧m.d<=2147483647
def QzT {m:Mm}(h:MOk m):(Qog m).length<=100:=by
 have aa:=Quu m.sz;have ab:=Qcx m.b;have ac:=Qcx m.i;have ad:=Z9 m.d (by have:=h.d;unfold I64;omega);have ae:=Z9 (-m.d) (by have:=h.d;unfold I64;omega);unfold Qog QCU QED QHd;simp only[Lh];cases isR m.b 0 0<;>cases isR m.i 0 0<;>cases decide (0<m.d)<;>cases decide (m.d<0)<;>simp[Qxo]<;>omega
structure QrH (T:Qa->Prop):Prop where
 q:Tq T
 nm:QIG T
section
variable {T:Qa->Prop} (hT:QrH T) {H0 H:Qa} (hw0:H0.Wf) (hT0:T H0) {D:Nat} {l:List UInt8} {v:Value} {m:Mm}
abbrev KPx (H0 H:Qa)(D:Nat)(l:List UInt8)(v:Value):Env->Qa->Prop:=Rt Pg Tryz.f81 H λu H'=>u=.P D∧QrF H0 H D l v H'
structure PlF (H0 H H1:Qa) (D:Nat) (v:Value) (m:Mm) (l:List UInt8) (A:Env) (H':Qa):Prop where
 b:∃p' v',BAt H0 H' D l p' v'∧Gw D v v' H1 H'
 r0:A 0=.P D
 r3:A 3=.P H.y
def PlF.env {H1:Qa}{A B:Env}{H':Qa}(h:PlF H0 H H1 D v m l A H')(e0:B 0=A 0)(e3:B 3=A 3):PlF H0 H H1 D v m l B H':=⟨h.b,e0.trans h.r0,e3.trans h.r3⟩
structure PlE (H0 H H1:Qa) (D:Nat) (v:Value) (m:Mm):Prop where
 w:H0.Wf
 x:Ext H H1
 g:H1.get H.y=some (.C m.cells 70)
 lt:H.y<H1.y
 nD:H.y≠D
 nv:¬ZZ v H.y
def PlE.get {H1:Qa}(h:PlE H0 H H1 D v m){ab:Value}{H':Qa}(aa:Gw D v ab H1 H'):H'.get H.y=some (.C m.cells 70):=by
 rw[aa.keep _ h.lt h.nD h.nv];exact h.g
include hT hT0 in
def QEE {H1:Qa}(al:PlE H0 H H1 D v m)(aE:MOk m)(f:Bool){A:Env}{H':Qa}(aC:PlF H0 H H1 D v m l A H')(aN:l.length<=900000)(aq:A 5=.bool f):
  Qk Pg ZH ⟨KPx H0 H D (l++QCU f m++[93]) v,Xi⟩ (KPx H0 H D (l++QCU f m++[93]) v) A H':=by
 unfold QCU;obtain⟨⟨aP,aQ,ag,ai⟩,r0,r3⟩:=aC;have aK:=aE.d;have au:I64 m.d:=by unfold I64;omega
 have av:I64 (-m.d):=by unfold I64;omega
 have aI:IntKind.i64.wrap (-m.d)=-m.d:=w64 av;have am:=al.get ai;have aL:=Z9 m.d au;have aM:=Z9 (-m.d) av
 -- the bracket
 have ax:∀ (ak:List UInt8) (A2:Env) (H2:Qa) (p2 az:Value),ak.length<=999000->BAt H0 H2 D ak p2 az->Gw D v az H1 H2->A2 0=.P D->Qk Pg (.seq (.ops [Om 66 (t 0),Ow 67 (.bslice 9 1 1 [.string (mkS [])] [(0,(.const (.string (mkS [93]))))]),Ow 68 (.call 44 [(t 66),(t 67)]),Om 4 (t 68)]) .ret) ⟨KPx H0 H D (ak++[93]) v,Xi⟩ (KPx H0 H D (ak++[93]) v) A2 H2:=by
  intro ak A2 H2 p2 az aO aD aG aH;simp only[Qb,simprocAttr,syA,aH];refine(K8 aD [[93]] 1 rfl (by simp;omega) (by simp)).w ?_;rintro _ H3 ao ap ⟨rfl,ad,ab,aa,ac⟩;simp only[Wu,simprocAttr,QaC];have ah:Gw D v ab H H3:=(aG.trans ac).pre al.x;exact .mk ah.y ⟨rfl,ad,ab,by simpa using aa,ah⟩
 have ay:∀n,I64 n->Qe Pg 24 [.Z n] H' λu H2=>u=.string (mkS (QeC n))∧Ext H' H2:=λn aF=>Kh hT.q n aF H' (hT.q.ext H0 H' al.w hT0 ag.ext);have an:m.cells[5]? = some (.Z m.d):=rfl;generalize aJ:m.cells=cs at *;simp only[ZH,Gj,Qpn];cases f with
 | true=>
  simp only[Qb,simprocAttr,r0,r3,aq,am,an];refine(ay m.d au).w ?_;rintro _ H2 aB aj ⟨rfl,ae⟩;simp only[Qb,simprocAttr,syA];refine(K8 (ag.go ae aj) [QeC m.d] 1 rfl (by simp;omega) (by simp)).w ?_;rintro _ H3 ao ap ⟨rfl,ad,ab,aa,ac⟩;simp only[Qcj,KZ];rw[VU]at aa;refine ax (l++QeC m.d) _ _ ad ab (by rw[Lh];omega) aa ((ai.post ae).trans ac) ?_;simp only[Qf,simprocAttr,r0]
 | false=>
  cases ar:decide (0<m.d) with
  | true=>
   simp only[XQ,Qb,simprocAttr,r0,r3,aq,am,an,ar];refine(ay m.d au).w ?_;rintro _ H2 aB aj ⟨rfl,ae⟩;simp only[Qb,simprocAttr,syA];refine(K8 (ag.go ae aj) [[32,43,32],QeC m.d] 2 rfl (by simp;omega) (by simp)).w ?_;rintro _ H3 ao ap ⟨rfl,ad,ab,aa,ac⟩;simp only[Qcj,KZ];rw[QpC,Nm,Nm,Nm,LH]at aa;refine ax (l++(32::43::32::QeC m.d)) _ _ ad ab (by simp only[Lh,Lo];omega) aa ((ai.post ae).trans ac) ?_;simp only[Qf,simprocAttr,r0]
  | false=>
   cases aA:decide (m.d<0) with
   | true=>
    simp only[XQ,ZG,Qb,simprocAttr,r0,r3,aq,am,an,ar,aA];rw[Qxa (ik:=.i64) (n:=m.d) (by simp only[Qf,simprocAttr])];simp only[Wu,simprocAttr,aI];refine(ay (-m.d) av).w ?_;rintro _ H2 aB aj ⟨rfl,ae⟩;simp only[Qb,simprocAttr,syA];refine(K8 (ag.go ae aj) [[32,45,32],QeC (-m.d)] 2 rfl (by simp;omega) (by simp)).w ?_;rintro _ H3 ao ap ⟨rfl,ad,ab,aa,ac⟩;simp only[Qcj,KZ];rw[QpC,Nm,Nm,Nm,LH]at aa;refine ax (l++(32::45::32::QeC (-m.d))) _ _ ad ab (by simp only[Lh,Lo];omega) aa ((ai.post ae).trans ac) ?_;simp only[Qf,simprocAttr,r0]
   | false=>
    simp only[XQ,ZG,Qb,simprocAttr,syA,r0,r3,aq,am,an,ar,aA];refine(K8 ag [[93]] 1 rfl (by simp;omega) (by simp)).w ?_;rintro _ H3 ao ap ⟨rfl,ad,ab,aa,ac⟩;simp only[Wu,simprocAttr,QaC];have ah:Gw D v ab H H3:=(ai.trans ac).pre al.x;exact .mk ah.y ⟨rfl,ad,ab,by simpa using aa,ah⟩
end
section
variable {T:Qa->Prop} (hT:QrH T) {H0 H:Qa} (hw0:H0.Wf) (hT0:T H0) {D:Nat} {l:List UInt8} {v:Value} {m:Mm}
include hT hT0 in
def QEF {H1:Qa}(aa:PlE H0 H H1 D v m)(ag:MOk m)(f:Bool){A:Env}{H':Qa}(ah:PlF H0 H H1 D v m l A H')(aE:l.length<=800000)(am:A 5=.bool f)(w:List UInt8)(ab:w=l++QHd f m++QCU (f&&isR m.i 0 0) m++[93]):
  Qk Pg ZI ⟨KPx H0 H D w v,Xi⟩ (KPx H0 H D w v) A H':=by
 have an:=ah;obtain⟨⟨aQ,aR,ao,ae⟩,r0,r3⟩:=ah;have ac:=aa.get ae;have aH:=aa.lt;have aJ:=ae.y;have au:=Qcx m.i;have hi:=ag.i;simp only[Mm.cells]at ac;simp only[ZI,Gj];simp only[Qb,simprocAttr,r3,ac,QE];have ap:(m.i.c==0&&m.i.n==0)=isR m.i 0 0:=rfl;simp only[ap];unfold QHd at ab;cases h:isR m.i 0 0 with
 | true=>
  rw[h,Lq,Be,Na]at ab;subst ab;simp only[L8,Wu,simprocAttr];refine QEE hT hT0 aa ag f (an.env ?_ ?_) (by omega) ?_
  all_goals simp only[Qf,simprocAttr,am]
 | false=>
  obtain⟨az,aO,aP⟩:=hi h;rw[h,Ls,NJ]at ab;have av:((m.sc.toNat:Nat):Int)=m.sc:=by omega
  have ax:m.sc.toNat<10:=by omega
  simp only[LM,VR,Qb,simprocAttr,r0,r3,am,cgA];refine⟨⟨by omega,by omega⟩,?_⟩;refine(QEC ao f [] [32,43,32] (by simp;omega)).w ?_;rintro _ H2 au aK ⟨rfl,p2,aS,ai,ak⟩;have ad:=aa.get (ae.trans ak);simp only[Mm.cells]at ad;have aD:H2.get H.y=H'.get H.y:=by rw[ad,ac]
  have aG:H.y<H2.y:=by omega
  have aB:=Qlu hT.nm m.i az H2 (hT.q.ext H0 H2 aa.w hT0 ai.ext);have al:=QJw m.sc.toNat ax H2;rw[av]at al;simp only[Qb,simprocAttr,cgA,ac,ad,r3];refine⟨by simp[Qj,Ab.plain],by omega,?_⟩;refine aB.w ?_;rintro _ H2 _ aL ⟨rfl,rfl⟩;simp only[Qb,simprocAttr,ad,r3];refine⟨λ_ _=>rfl,by simp[Qj,Ab.plain],?_⟩;refine al.w ?_;rintro _ H2 _ aM ⟨rfl,rfl⟩;simp only[Qb,simprocAttr,syA];have aF:(bif f then([]:List UInt8) else[32,43,32]).length<=3:=by cases f<;>simp
  have aq:([Qad m.i,[42],Qxo m.sc.toNat]:List (List UInt8)).flatten.length<=100:=by rw[Qkt];simp[Qxo];omega
  refine(K8 ai [Qad m.i,[42],Qxo m.sc.toNat] 3 rfl (by rw[Lh];omega) (by simp)).w ?_;rintro _ H5 aI aN ⟨rfl,aA,aC,aj,ay⟩;simp only[Wu,simprocAttr];rw[LQ,Qkt]at aj;have ar:(l++((bif f then([]:List UInt8) else[32,43,32])++(Qad m.i++([42]++Qxo m.sc.toNat)))).length<=900000:=by
   rw[Qkt]at aq;rw[Lh,Lh];omega
  subst ab;refine QEE hT hT0 aa ag false ⟨⟨aA,aC,aj,(ae.trans ak).trans ay⟩,?_,?_⟩ ar ?_
  all_goals simp only[Qf,simprocAttr,r0,r3]
include hT hT0 in
def Qvr (hw0:H0.Wf){p:Value}(ab:BAt H0 H D l p v)(ah:MOk m)(aC:l.length<=700000):Qe Pg 81 [.P D,.agg m.cells.toArray] H λu H'=>u=.P D∧QrF H0 H D (l++Qog m) v H':=by
 refine QjT λav=>?_;have al:(Value.agg m.cells.toArray).cells.toList=m.cells:=rfl;have ak:=(Ext.refl H).push (.C m.cells 70);have an:=ab.go ak (av.push _);have aj:(H.push (.C m.cells 70)).get H.y=some (.C m.cells 70):=by rw[Qc,Lc rfl]
 have aF:(H.push (.C m.cells 70)).y=H.y+1:=rfl;have aq:m.cells[6]? = some (.Z m.sz):=rfl;have aB:=ab.wf.lt ab.get;have ar:¬ZZ v H.y:=λhi=>by have:=Qvp ab hi;omega
 have aK:=Quu m.sz;obtain⟨w,aa⟩:∃w,w=l++Qog m:=⟨_,rfl⟩;rw[<- aa];simp only[Qbk,al,Wu,simprocAttr];generalize H.push (.C m.cells 70)=H1 at *;simp only[Qb,simprocAttr,aj,aq];refine(Qvq m.sz H1).w ?_;rintro _ H1 _ aL ⟨rfl,rfl⟩;simp only[Qb,simprocAttr,syA];have ap:([QpA m.sz,[91]]:List (List UInt8)).flatten.length<=7:=by rw[QpC];simp;omega
 refine(K8 an [QpA m.sz,[91]] 2 rfl (by omega) (by simp)).w ?_;rintro _ H3 aG aM ⟨rfl,ax,az,ac,ad⟩;have ae:PlE H0 H H1 D v m:=⟨hw0,ak,aj,by omega,by omega,ar⟩;have ag:=ae.get ad;simp only[Mm.cells]at ag;rw[QpC]at ac;have aJ:=Qcx m.b;have am:=ah.b;have aH:=ad.y;have aE:H.y<H3.y:=by omega
 simp only[Qb,simprocAttr,ag,QE];have ao:(m.b.c==0&&m.b.n==0)=isR m.b 0 0:=rfl;simp only[ao];have aD:(l++(QpA m.sz++[91])).length<=700007:=by rw[QpC]at ap;rw[Lh];omega
 unfold Qog QED at aa;cases h:isR m.b 0 0 with
 | true=>
  rw[h,Lq,Na]at aa;simp only[L8,Wu,simprocAttr];refine QEF hT hT0 ae ah true ⟨⟨ax,az,ac,ad⟩,?_,?_⟩ (by omega) ?_ w (by rw[aa];simp only[LQ])
  all_goals simp only[Qf,simprocAttr]
 | false=>
  rw[h,Ls]at aa;simp only[LM,Qb,simprocAttr,ag];refine(Qlu hT.nm m.b (am h) H3 (hT.q.ext H0 H3 hw0 hT0 ac.ext)).w ?_;rintro _ H3 _ aN ⟨rfl,rfl⟩;simp only[Qb,simprocAttr,syA];refine(K8 ac [Qad m.b] 1 rfl (by rw[VU];omega) (by simp)).w ?_;rintro _ H5 aI aO ⟨rfl,ay,aA,ai,au⟩;rw[VU]at ai;simp only[Wu,simprocAttr];refine QEF hT hT0 ae ah false ⟨⟨ay,aA,ai,ad.trans au⟩,?_,?_⟩ (by rw[Lh];omega) ?_ w (by rw[aa];simp only[LQ])
  all_goals simp only[Qf,simprocAttr]
end
def QBg {r:Rg}{c n:Int}:isR r c n=true↔r=⟨c,n⟩:=by
 obtain⟨a,b⟩:=r;simp[isR]
def Qlw {m:Mm}(h:QI m=0):(-2147483648<=m.d∧m.d<=2147483647)∧Z8 m.sz=true∧(isR m.b 0 0=true∨isR m.b 8 0=true∨XJ m.b=true)∧
  ((isR m.i 0 0=true∧m.sc=0)∨(isR m.i 0 0=false∧XJ m.i=true∧Wz m.sc=true∧isR m.b 8 0=false∧(isR m.i 5 4=true->m.sc=1∧isR m.b 5 4=false))):=by
 unfold QI at h;split at h;·simp at h
 rename_i ab;split at h;·simp at h
 rename_i ac;split at h;·simp at h
 rename_i ah;split at h;·simp at h
 rename_i ad;have g1:-2147483648<=m.d∧m.d<=2147483647:=by simp at ab;omega
 have g2:Z8 m.sz=true:=by simpa using ac
 have g3:isR m.b 0 0=true∨isR m.b 8 0=true∨XJ m.b=true:=by
  cases e1:isR m.b 0 0<;>cases e2:isR m.b 8 0<;>cases e3:XJ m.b<;>simp_all
 refine⟨g1,g2,g3,?_⟩;split at h;·rename_i aa;left;refine⟨aa,?_⟩;simpa[aa] using ad
 rename_i aa;have ae:isR m.i 0 0=false:=by simpa using aa
 right;split at h;·simp at h
 rename_i ai;split at h;·simp at h
 rename_i ag;refine⟨ae,?_,?_,?_,?_⟩;·cases e:XJ m.i<;>simp_all
 ·cases e:Wz m.sc<;>simp_all
 ·cases e:isR m.b 8 0<;>simp_all
 intro e;rw[e]at ag;constructor;·cases e2:m.sc==1<;>simp_all
 cases e2:isR m.b 5 4<;>simp_all
def Qux {m:Mm}(al:-2147483648<=m.d∧m.d<=2147483647)(ae:Z8 m.sz=true)(ag:isR m.b 0 0=true∨isR m.b 8 0=true∨XJ m.b=true)
  (ah:(isR m.i 0 0=true∧m.sc=0)∨(isR m.i 0 0=false∧XJ m.i=true∧Wz m.sc=true∧isR m.b 8 0=false∧(isR m.i 5 4=true->m.sc=1∧isR m.b 5 4=false))):QI m=0:=by
 unfold QI;have e1:(decide (m.d < -2147483648)||decide (m.d>2147483647))=false:=by simp;omega
 have e3:(!isR m.b 0 0&&!isR m.b 8 0&&!XJ m.b)=false:=by rcases ag with h | h | h<;>simp[h]
 rw[e1,ae,e3];simp only[LV,LN,reduceCtorEq];rcases ah with⟨aa,ab⟩ | ⟨aa,ab,ai,aj,ak⟩;·simp[aa,ab]
 simp only[aa,ab,ai,aj,NG,LV,LN,L8,Nt];cases e:isR m.i 5 4 with
 | false=>simp
 | true=>
  obtain⟨ac,ad⟩:=ak e;simp[ac,ad]
structure QLc (m:Mm):Prop where
 ok:MOk m
 z:isR m.i 0 0=true->m.sc=0
 p:isR m.i 0 0=false->0<m.sc
 chk:QI m=0
 idem:Wt m=m
def QHe {r:Rg}(h:isR r 0 0=true∨isR r 8 0=true∨XJ r=true)(aa:isR r 0 0=false):WC r=true:=by
 rcases h with h | h | h;·rw[h]at aa;cases aa
 ·rw[QBg.1 h];decide
 unfold XJ at h;simp only[Lm]at h;exact h.2
def QHf {r:Rg}(h:XJ r=true):WC r=true:=by
 unfold XJ at h;simp only[Lm]at h;exact h.2
def QEM {r:Rg}(h:XJ r=true):r.c=5:=by
 unfold XJ at h;simp only[Lm,L0]at h;exact h.1
def QrN {n:Int}(h:Wz n=true):1<=n∧n<10:=by
 unfold Wz at h;simp only[Nw,L0]at h;omega
def QJx {m:Mm}(h:QI m=0):MOk m:=by
 obtain⟨ab,ai,ac,ad⟩:=Qlw h;refine⟨QHe ac,λaa=>?_,ab⟩;rcases ad with⟨ae,_⟩ | ⟨_,ag,ah,_⟩;·rw[ae]at aa;cases aa
 have:=QrN ah;exact⟨QHf ag,by omega,by omega⟩
def QMf {m:Mm}(h:QI m=0):QLc (Wt m):=by
 obtain⟨ah,ai,al,am⟩:=Qlw h;have key:QI (Wt m)=0∧Wt (Wt m)=Wt m:=by
  rcases am with⟨ab,ad⟩ | ⟨ab,ad,an,aj,ao⟩
  ·have e:Wt m=m:=by unfold Wt;simp[ab]
   rw[e];exact⟨h,e⟩
  cases ac:m.sc==1 with
  | false=>
   have e:Wt m=m:=by unfold Wt;simp[ac]
   rw[e];exact⟨h,e⟩
  | true=>
   cases aa:isR m.b 0 0 with
   | true=>
    have e:Wt m=⟨m.i,⟨0,0⟩,0,m.d,m.sz⟩:=by unfold Wt;simp[ab,ac,aa]
    rw[e];refine⟨Qux ah ai (.inr (.inr ad)) (.inl ⟨rfl,rfl⟩),?_⟩;unfold Wt;rfl
   | false=>
    cases hi:m.i.n==4 with
    | false=>
     have e:Wt m=m:=by unfold Wt;simp[ab,ac,aa,hi]
     rw[e];exact⟨h,e⟩
    | true=>
     have e:Wt m=⟨m.i,m.b,m.sc,m.d,m.sz⟩:=by unfold Wt;simp[ab,ac,aa,hi]
     have hi4:m.i=⟨5,4⟩:=by
      have c:=QEM ad;have n:m.i.n=4:=by simpa using hi
      revert c n
      obtain⟨c,n⟩:=m.i;rintro rfl rfl;rfl
     have ag:=ao (QBg.2 hi4);have ak:XJ m.b=true:=by
      rcases al with h | h | h;·rw[h]at aa;cases aa
      ·rw[h]at aj;cases aj
      exact h
     have au:m.sc=1:=by simpa using ac
     have ap:(m.b.n==4)=false:=by
      cases ar:m.b.n==4 with
      | false=>rfl
      | true=>
       have n:m.b.n=4:=by simpa using ar
       have c:=QEM ak;have:isR m.b 5 4=true:=by unfold isR;rw[c,n];rfl
       rw[this]at ag;cases ag.2
     rw[e];refine⟨Qux ah ai (.inr (.inr ad)) (.inr ⟨aa,ak,an,?_,?_⟩),?_⟩;·rw[hi4];rfl
     ·intro q;rw[ag.2]at q;cases q
     have aq:isR m.i 0 0=false:=ab;unfold Wt;simp[aa,ac,aq,ap]
 obtain⟨k1,k2⟩:=key;obtain⟨_,_,_,g4⟩:=Qlw k1;refine⟨QJx k1,λae=>?_,λae=>?_,k1,k2⟩
 ·rcases g4 with⟨_,g⟩ | ⟨g,_⟩;·exact g
  rw[ae]at g;cases g
 rcases g4 with⟨g,_⟩ | ⟨_,_,g,_⟩;·rw[ae]at g;cases g
 have:=QrN g;omega
structure AOk (a:Ar):Prop where
 r:a.k=1->WC a.r=true
 m:a.k=2->QLc a.m
 k:a.k=1∨a.k=2∨a.k=3∨a.k=4
 n:I64 a.n
def QzW {a:Ar}(h:WD a=0):(a.k=1->WC a.r=true)∧(a.k=2->QI a.m=0)∧(a.k=1∨a.k=2∨a.k=3∨a.k=4):=by
 unfold WD at h;split at h
 ·rename_i ac;have aa:a.k=1:=by simpa using ac
  refine⟨λ_=>?_,λab=>by omega,.inl aa⟩;cases e:WC a.r with
  | true=>rfl
  | false=>rw[e]at h;simp at h
 rename_i ac;have aa:¬a.k=1:=by simpa using ac
 split at h
 ·rename_i ab;have ad:a.k=2:=by simpa using ab
  exact⟨λh=>absurd h aa,λ_=>h,.inr (.inl ad)⟩
 rename_i ab;have ad:¬a.k=2:=by simpa using ab
 refine⟨λh=>absurd h aa,λh=>absurd h ad,?_⟩;split at h
 ·rename_i ae;have ag:a.k=3:=by simpa using ae
  exact .inr (.inr (.inl ag))
 split at h
 ·rename_i ah;have ai:a.k=4:=by simpa using ah
  exact .inr (.inr (.inr ai))
 simp at h
def QIH:I64 0:=by unfold I64;omega
def QCY {a:Ar}(ag:I64 a.n)(h:WD a=0):AOk (Qgx a):=by
 obtain⟨ad,ae,aa⟩:=QzW h;unfold Qgx;split
 ·rename_i k1;have ab:a.k=1:=by simpa using k1
  exact⟨ad,λh=>by simp only at h;omega,aa,QIH⟩
 rename_i k1;have ab:¬a.k=1:=by simpa using k1
 split
 ·rename_i k2;have ac:a.k=2:=by simpa using k2
  exact⟨λh=>absurd h ab,λh=>QMf (ae ac),aa,QIH⟩
 rename_i k2;have ac:¬a.k=2:=by simpa using k2
 exact⟨λh=>absurd h ab,λh=>absurd h ac,aa,ag⟩
def QCZ {aa:Int×Bool}{a:Ar}(ae:I64 a.n)(h:(Zf aa a).2=0):AOk (Zf aa a).1:=by
 have ac:WJ a=if(WD a==0)=true then(Qgx a,0) else(WY,WD a):=rfl
 have e:Zf aa a=if((WJ a).2==0)=false then(a,(WJ a).2) else if((WJ a).1.k==3)=true then({(WJ a).1 with n:=(GM (WJ a).1.n aa.1 aa.2).1},(GM (WJ a).1.n aa.1 aa.2).2) else((WJ a).1,0):=rfl
 cases ab:WD a==0 with
 | false=>
  rw[ac,ab]at e;simp only[LV,LN,ab,N3]at e;rw[e]at h;simp only at h;rw[h]at ab;cases ab
 | true=>
  have ad:WD a=0:=by simpa using ab
  rw[ac,ab]at e;have o:=QCY ae ad;simp only[N3,LO,Fe,LN]at e;rw[e];split
  ·rename_i k3;have ag:(Qgx a).k=3:=by simpa using k3
   exact⟨λh=>by simp only at h;omega,λh=>by simp only at h;omega,.inr (.inr (.inl ag)),QrK _ _ _ o.n⟩
  exact o
def QrO {ac:Int×Bool}:∀ {l:List Ar},(∀a∈l,I64 a.n)->(Q5 ac l).2=0->∀a∈(Q5 ac l).1,AOk a
 | [],_,_,a,aa=>by cases aa
 | b::l,hn,h,a,aa=>by
  unfold Q5 at h aa;split at h
  ·rename_i ab;rw[Lc ab]at aa;rcases LK.1 aa with rfl | aa;·exact QCZ (hn b (Ny ..)) (by simpa using ab)
   exact QrO (λx hx=>hn x (NA _ hx)) h a aa
  rename_i ab;simp only at h;exact absurd (L0.2 h) ab
def QC0 {op:Int}{l:List Ar}{a:Ar}(h:a∈Ja op l):a∈l:=by
 unfold Ja at h;split at h
 ·split at h
  ·rename_i x y _;rcases LK.1 h with rfl | h;·exact Ny ..
   exact h
  exact h
 split at h;·simpa using h
 split at h;·simpa using h
 exact h
def Qxu (aa:Int×Bool):∀l:List Ar,(Q5 aa l).1.length<=l.length
 | []=>Lb _
 | a::l=>by
  unfold Q5;split;·have:=Qxu aa l;simp only[Lo];omega
  exact L7 _
def QEN (op:Int)(l:List Ar):(Ja op l).length<=l.length+1:=by
 unfold Ja;split
 ·split;·simp
  exact Nat.le_succ _
 split;·simp
 split;·simp
 exact Nat.le_succ _
def Qxv {op:Int}{l:List Ar}(ag:∀a∈l,I64 a.n)(h:(QT op l).2.2=0):(QT op l).1=op∧Ze op=true∧(QT op l).2.1.length<=5∧∀a∈(QT op l).2.1,AOk a:=by
 unfold QT at h ⊢;split at h;·rename_i ab;simp only at h;rw[h]at ab;cases ab
 rename_i ab;split at h;·rename_i ac;simp only at h;rw[h]at ac;cases ac
 rename_i ac;rw[Le ab,Le ac];have aa:Wl op l=0:=by simpa using ab
 have ad:(Q5 (WI op l) l).2=0:=by simpa using ac
 refine⟨rfl,?_,?_,λa ae=>QrO ag ad a (QC0 ae)⟩
 ·cases e:Ze op with
  | true=>rfl
  | false=>unfold Wl at aa;simp[e]at aa
 have ah:=QEN op (Q5 (WI op l) l).1;have ai:=Qxu (WI op l) l;have aj:l.length<=4:=by
  unfold Wl at aa;split at aa;·simp at aa
  split at aa;·simp at aa
  omega
 show(Ja op (Q5 (WI op l) l).1).length<=5;omega
def QEO (n:Int):I64 (IntKind.i64.wrap n):=by rw[NU];unfold I64;omega
def Qxw (next:Int)(a:Ar):List UInt8:=if(a.k==1)=true then Qad a.r else if(a.k==2)=true then Qog a.m else if(a.k==3)=true then QeC a.n else QeC (IntKind.i64.wrap (a.n+next))
def Qxx {next:Int}{a:Ar}(h:AOk a):(Qxw next a).length<=100:=by
 unfold Qxw;split;·have:=Qcx a.r;omega
 split;·rename_i aa;exact QzT (h.m (by simpa using aa)).ok
 split;·have:=Z9 a.n h.n;omega
 have:=Z9 (IntKind.i64.wrap (a.n+next)) (QEO _);omega
section
variable {T:Qa->Prop} (hT:QrH T) {H0 H:Qa} (hw0:H0.Wf) (hT0:T H0) {D:Nat} {l:List UInt8} {v:Value}
include hT hT0 hw0 in
def QrP {p:Value}(ay:BAt H0 H D l p v){a:Ar}(am:AOk a)(next:Int)(aK:l.length<=600000):Qe Pg 47 [.P D,.agg a.cells.toArray,.Z next] H λu H'=>u=.P D∧QrF H0 H D (l++Qxw next a) v H':=by
 refine QhS λaE=>?_;have aB:(Value.agg a.cells.toArray).cells.toList=a.cells:=rfl;have ao:=(Ext.refl H).push (.C a.cells 95);have au:=ay.go ao (aE.push _);have ai:(H.push (.C a.cells 95)).get H.y=some (.C a.cells 95):=by rw[Qc,Lc rfl]
 have aM:(H.push (.C a.cells 95)).y=H.y+1:=rfl;have aC:=Qxx (next:=next) am
 obtain⟨w,aa⟩:∃w,w=Qxw next a:=⟨_,rfl⟩;rw[<- aa]at aC ⊢;have ar:T (H.push (.C a.cells 95)):=hT.q.ext H0 _ hw0 hT0 au.ext;have ap:∀ (aH:Value) (H2:Qa),Ext (H.push (.C a.cells 95)) H2->H2.Wf->∀ (w':List UInt8),w'=w->Qe Pg 44 [.P D,.S H2.y 1 1] (H2.push (.C (Qxg [w']) 9)) λu H'=>u=.P D∧QrF H0 H D (l++w) v H':=by
  intro aH H2 ag ae w' e;subst e;refine(K8 (au.go ag ae) [w'] 1 rfl (by rw[VU];omega) (by simp)).mono ?_;rintro u H' ⟨rfl,ab,ac,ah,an⟩;rw[VU]at ah;exact⟨rfl,ab,ac,ah,(an.pre ag).pre ao⟩
 have aL:=ay.ext;obtain⟨k,⟨aI,aJ⟩,⟨⟨az,aA⟩,⟨aF,aG⟩,sc,d,sz⟩,n⟩:=a;simp only[Ar.cells]at *;simp only[VQ,aB,Wu,simprocAttr];generalize H.push _=H1 at *;simp only[Qb,simprocAttr,ai];unfold Qxw at aa;refine Qg (λh=>?_) (λh=>?_);·rw[Lc h]at aa;simp only[Qb,simprocAttr,ai];refine(Qlu hT.nm ⟨aI,aJ⟩ (am.r (by simpa using h)) H1 ar).w ?_;rintro _ H2 _ ae ⟨rfl,rfl⟩;simp only[Qb,simprocAttr,syA];refine(ap p _ (.refl _) ae _ aa.symm).w ?_;rintro _ H3 av ax ⟨rfl,aj⟩;simp only[Wu,simprocAttr,Xr];obtain⟨ab,ac,ak,ad⟩:=aj;exact .mk ad.y ⟨rfl,ab,ac,ak,ad⟩
 rw[Le (by simp[h])]at aa;simp only[Gl,Qb,simprocAttr];refine Qg (λal=>?_) (λal=>?_);·rw[Lc al]at aa;have aD:MOk ⟨⟨az,aA⟩,⟨aF,aG⟩,sc,d,sz⟩:=(am.m (by simpa using al)).ok;simp only[Qb,simprocAttr,ai];refine(Qvr hT hT0 hw0 au aD (by omega)).w ?_;rintro _ H3 av ax ⟨rfl,ab,ac,ah,an⟩;rw[<- aa]at ah;simp only[Wu,simprocAttr,Xr];exact .mk (an.pre ao).y ⟨rfl,ab,ac,ah,an.pre ao⟩
 rw[Le (by simp[al])]at aa;simp only[Gk,Qb,simprocAttr];refine Qg (λaq=>?_) (λaq=>?_);·rw[Lc aq]at aa;simp only[Qb,simprocAttr,ai];refine(Kh hT.q n am.n H1 ar).w ?_;rintro _ H2 _ ae ⟨rfl,ag⟩;simp only[Qb,simprocAttr,syA];refine(ap p _ ag ae _ aa.symm).w ?_;rintro _ H3 av ax ⟨rfl,aj⟩;simp only[Wu,simprocAttr,Xr];obtain⟨ab,ac,ak,ad⟩:=aj;exact .mk ad.y ⟨rfl,ab,ac,ak,ad⟩
 rw[Le (by simp[aq])]at aa;simp only[Qb,simprocAttr,ai];refine(Kh hT.q _ (QEO _) H1 ar).w ?_;rintro _ H2 _ ae ⟨rfl,ag⟩;simp only[Qb,simprocAttr,syA];refine(ap p _ ag ae _ aa.symm).w ?_;rintro _ H3 av ax ⟨rfl,aj⟩;simp only[Wu,simprocAttr,Xr];obtain⟨ab,ac,ak,ad⟩:=aj;exact .mk ad.y ⟨rfl,ab,ac,ak,ad⟩
def QHg (H:Qa)(aa:H.Wf):BAt H (H.push (.C [.pointer none,.slice none 0 0] 104)) H.y [] (.pointer none) (.slice none 0 0):=
 ⟨by rw[Qc,Lc rfl],.inl rfl,.inl ⟨rfl,rfl,rfl⟩,Lb _,by simp[ZZ],aa.push _,(Ext.refl H).push _⟩
include hT in
end
def Qxy {l:Nat}{args:List Value}{H:Qa}{k ac:Value->Qa->Prop}(h:YQ Pg l args H k)(ag:∀v H',H.y<=H'.y->H'.Wf->k v H'->ac v H'):YQ Pg l args H ac:=by
 intro ah;obtain⟨v,H',ad,aa,ab,ae⟩:=h ah;exact⟨v,H',ad,aa,ab,ag v H' aa ab ae⟩
abbrev pS (b:Nat):Value:=.P b
def QzX (s:List UInt8)(H:Qa):Qe Pg 79 [.string (mkS s),.string (mkS [32])] H λu H'=>u=.func (.func 140) #[] #[pS (H.y+1),pS H.y,pS (H.y+2)]∧H'=((H.push (.C [.string (mkS s)] 9)).push (.C [.string (mkS [32])] 9)).push (.C [.Z 0] 3):=by
 refine QjS λac=>?_;simp only[Qbj,Qb,simprocAttr];have aa:Qe Pg 111 [.string (mkS s),.string (mkS [32]),.Z 0] H λu H'=>u=.func (.func 140) #[] #[pS (H.y+1),pS H.y,pS (H.y+2)]∧H'=((H.push (.C [.string (mkS s)] 9)).push (.C [.string (mkS [32])] 9)).push (.C [.Z 0] 3):=by
  refine QjU λac=>?_;simp only[Qbl,Qb,simprocAttr];simp only[Qir,Qf,simprocAttr];exact .mk (by simp only[Qd];omega) ⟨rfl,rfl⟩
 refine aa.w ?_;rintro _ H1 ab ad ⟨rfl,rfl⟩;simp only[Qb,simprocAttr,Qiq];exact .mk ab ⟨rfl,rfl⟩
def QzY {l bs ss bk:Nat}(s:List UInt8)(aI:s.length<=1000000)(H:Qa)(R:Nat->Qa->Prop)(Z:Qa->Prop)
  (ae:∀j H',R j H'->H.y<=H'.y∧(∃e ro,H'.get bs=some (.cells [.string (mkS [32])] e ro))∧∃e ro,H'.get bk=some (.cells [.Z 0] e ro))
  (ap:∀H',Z H'->H.y<=H'.y) (aB:∀j H' x v,R j H'->H'.get ss=some (.C [x] 9)->R j (H'.set ss (.C [v] 9)))
  (ao:∀j w H' x,(XT s)[j]? = some w->R j H'->H'.get ss=some (.C [x] 9)->YQ Pg l [.string (mkS w)] H' λv H2=>(v=.bool true∧R (j+1) H2∧H2.get ss=some (.C [x] 9))∨(v=.bool false∧Z H2))
  (ak:R 0 H) (au:H.get ss=some (.C [.string (mkS s)] 9)):
  Qe Pg 140 [.func (.yield l) #[] #[],pS bs,pS ss,pS bk] H λv H'=>R (XT s).length H'∨Z H':=by
 refine QhT λaC=>?_;obtain⟨_,⟨e1,aD,g1⟩,⟨e2,aE,g2⟩⟩:=ae 0 H ak;have aS:(((1:Nat):Int)==0)=false:=rfl;simp only[VS,Gq,Qb,simprocAttr,g1,Xh];refine Qp (λm A' H'=>∃ (j:Nat) (r:List UInt8),m=r.length+1∧H'.Wf∧R j H'∧(XT s).drop j=XT r∧r.length<=s.length∧H'.get ss=some (.C [.string (mkS r)] 9)∧A' 0=.func (.yield l) #[] #[]∧A' 1=pS bs∧A' 2=pS ss∧A' 3=pS bk) (s.length+1) ?_ ?_
 ·refine⟨0,s,rfl,aC,ak,rfl,Lb _,au,?_,?_,?_,?_⟩
  all_goals simp only[Qf,simprocAttr]
 rintro m A' H1 ⟨j,r,aJ,aO,ah,aa,aN,ad,r0,r1,r2,r3⟩;obtain⟨aK,⟨e1,aD,g1⟩,⟨e2,aE,g2⟩⟩:=ae j H1 ah;simp only[Gn,Gm,Qb,simprocAttr,r1,r2,g1,ad];refine(QEw r 32 H1).w ?_;rintro _ H2 _ aP ⟨rfl,rfl⟩;have aH:=Lib.indexByte_ge r 32
 by_cases al:Lib.indexByte r 32<0
 ·have ay:=Qpw r (QEx al);rw[ay]at aa;have ai:(XT s)[j]? = some r:=by
   have:=congrArg (·[0]?) aa;simpa using this
  have av:(XT s).length=j+1:=by
   have:=congrArg List.length aa;rw[NT]at this;simp only[Lo,L9]at this;omega
  have d1:decide (Lib.indexByte r 32<0)=true:=Lp al;simp only[Qb,simprocAttr,r0,r2,d1,ad,Zz];refine Qxy (ao j r H2 _ ai ah ad) ?_;rintro v H3 ax an aj;simp only[Qb,simprocAttr,GZ];rcases aj with⟨rfl,ab,_⟩ | ⟨rfl,ac⟩;·exact .mk (ae _ _ ab).1 (.inl (by rw[av];exact ab))
  exact .mk (ap _ ac) (.inr ac)
 obtain⟨o,am⟩:∃o:Nat,Lib.indexByte r 32=o:=⟨(Lib.indexByte r 32).toNat,by omega⟩;obtain⟨aM,az,aA⟩:=QEy am;have d1:decide ((o:Int)<0)=false:=Lj (by omega);have aF:IntKind.i64.wrap ((o:Int)+0)=(o:Int):=w64 (by unfold I64;omega);have aG:IntKind.i64.wrap ((o:Int)+((1:Nat):Int))=((o+1:Nat):Int):=by rw[w64 (by unfold I64;omega)];rfl
 have aq:XT r=r.take o::XT (r.drop (o+1)):=by
  have:=QrE (r.take o) (r.drop (o+1)) aA;rwa [<- az]at this
 rw[aq]at aa;have ai:(XT s)[j]? = some (r.take o):=by
  have:=congrArg (·[0]?) aa;simpa using this
 have ar:(XT s).drop (j+1)=XT (r.drop (o+1)):=by
  have:=congrArg List.tail aa;simpa using this
 simp only[Qb,simprocAttr,am,r2,r3,d1,ad,g2,aF];rw[QCL (s:=mkS r) (h:=o) (ik:=.i64) (by kernel_rfl) (by simp only[Qf,simprocAttr]) (by simp only[Qf,simprocAttr]) (by rw[Xh];omega)];simp only[Qb,simprocAttr,r0,Zz,Xh];refine Qxy (ao j (r.take o) H2 _ ai ah ad) ?_;rintro v H3 ax an aj;rcases aj with⟨rfl,ab,ag⟩ | ⟨rfl,ac⟩
 ·obtain⟨aL,⟨e3,aQ,g3⟩,⟨e4,aR,g4⟩⟩:=ae _ _ ab;simp only[sxA,sxB,Nat.reduceBEq,Nat.reduceEqDiff,reduceCtorEq,mxA,mxB,Nat.reduceAdd,reduceIte,Nat.reduceLeDiff,splice,r1,r2,ag,g3,Xh,aG];rw[QCK (s:=mkS r) (l:=o+1) (ik:=.i64) (by kernel_rfl) (by simp only[Qf,simprocAttr]) (by simp only[Qf,simprocAttr]) (by rw[Xh];omega)];simp only[Qb,simprocAttr,syA,r2,ag];refine⟨(r.drop (o+1)).length+1,by rw[NT];omega,j+1,r.drop (o+1),rfl,an.set ag _,aB _ _ _ _ ab ag,ar,by rw[NT];omega,by rw[Qh,Lc rfl],?_,?_,?_,?_⟩
  all_goals simp only[Qf,simprocAttr,r0,r1,r2,r3]
 simp only[Qb,simprocAttr,GZ];exact .mk (ap _ ac) (.inr ac)
def Qlx:List UInt8:=[97,100,100,32,111,114,32,97,100,99,32,115,98,98,32,97,110,100,32,115,117,98,32,120,111,114,32,99,109,112,32,109,111,118,32,116,101,115,116,32,120,99,104,103,32,108,101,97,32,109,111,118,122,120,32,109,111,118,115,120,32,109,111,118,115,120,100,32,105,109,117,108,32,105,110,99,32,100,101,99,32,110,101,103,32,110,111,116,32,109,117,108,32,100,105,118,32,105,100,105,118,32,114,111,108,32,114,111,114,32,114,99,108,32,114,99,114,32,115,104,108,32,115,104,114,32,115,97,114,32,115,104,108,100,32,115,104,114,100,32,98,115,119,97,112,32,120,97,100,100,32,99,109,112,120,99,104,103,32,98,116,32,98,116,115,32,98,116,114,32,98,116,99,32,98,115,102,32,98,115,114,32,99,98,119,32,99,119,100,101,32,99,100,113,101,32,99,119,100,32,99,100,113,32,99,113,111,32,112,117,115,104,32,112,111,112,32,110,111,112,32,114,101,116,32,108,101,97,118,101,32,99,97,108,108,32,106,109,112,32,105,110,116,51,32,115,121,115,99,97,108,108,32,117,100,50,32,104,108,116,32,99,108,99,32,115,116,99,32,99,109,99,32,99,108,100,32,115,116,100,32,108,97,104,102,32,115,97,104,102,32,99,112,117,105,100,32,114,100,116,115,99,32,106,111,32,106,110,111,32,106,98,32,106,97,101,32,106,101,32,106,110,101,32,106,98,101,32,106,97,32,106,115,32,106,110,115,32,106,112,32,106,110,112,32,106,108,32,106,103,101,32,106,108,101,32,106,103,32,115,101,116,111,32,115,101,116,110,111,32,115,101,116,98,32,115,101,116,97,101,32,115,101,116,101,32,115,101,116,110,101,32,115,101,116,98,101,32,115,101,116,97,32,115,101,116,115,32,115,101,116,110,115,32,115,101,116,112,32,115,101,116,110,112,32,115,101,116,108,32,115,101,116,103,101,32,115,101,116,108,101,32,115,101,116,103,32,99,109,111,118,111,32,99,109,111,118,110,111,32,99,109,111,118,98,32,99,109,111,118,97,101,32,99,109,111,118,101,32,99,109,111,118,110,101,32,99,109,111,118,98,101,32,99,109,111,118,97,32,99,109,111,118,115,32,99,109,111,118,110,115,32,99,109,111,118,112,32,99,109,111,118,110,112,32,99,109,111,118,108,32,99,109,111,118,103,101,32,99,109,111,118,108,101,32,99,109,111,118,103,32,112,111,112,99,110,116,32,108,122,99,110,116,32,116,122,99,110,116,32,97,110,100,110,32,98,101,120,116,114,32,98,108,115,105,32,98,108,115,109,115,107,32,98,108,115,114,32,98,122,104,105,32,112,100,101,112,32,112,101,120,116,32,109,117,108,120,32,114,111,114,120,32,115,97,114,120,32,115,104,108,120,32,115,104,114,120,32,97,100,99,120,32,97,100,111,120,32,109,111,118,98,101,32,99,114,99,51,50,32,109,111,118,97,112,115,32,109,111,118,117,112,115,32,109,111,118,97,112,100,32,109,111,118,117,112,100,32,109,111,118,100,113,97,32,109,111,118,100,113,117,32,109,111,118,115,115,32,109,111,118,115,100,32,109,111,118,100,32,109,111,118,113,32,97,100,100,112,115,32,97,100,100,112,100,32,97,100,100,115,115,32,97,100,100,115,100,32,115,117,98,112,115,32,115,117,98,112,100,32,115,117,98,115,115,32,115,117,98,115,100,32,109,117,108,112,115,32,109,117,108,112,100,32,109,117,108,115,115,32,109,117,108,115,100,32,100,105,118,112,115,32,100,105,118,112,100,32,100,105,118,115,115,32,100,105,118,115,100,32,109,105,110,112,115,32,109,105,110,112,100,32,109,105,110,115,115,32,109,105,110,115,100,32,109,97,120,112,115,32,109,97,120,112,100,32,109,97,120,115,115,32,109,97,120,115,100,32,115,113,114,116,112,115,32,115,113,114,116,112,100,32,115,113,114,116,115,115,32,115,113,114,116,115,100,32,97,110,100,112,115,32,97,110,100,112,100,32,97,110,100,110,112,115,32,97,110,100,110,112,100,32,111,114,112,115,32,111,114,112,100,32,120,111,114,112,115,32,120,111,114,112,100,32,117,99,111,109,105,115,115,32,117,99,111,109,105,115,100,32,99,111,109,105,115,115,32,99,111,109,105,115,100,32,99,118,116,115,105,50,115,115,32,99,118,116,115,105,50,115,100,32,99,118,116,116,115,115,50,115,105,32,99,118,116,116,115,100,50,115,105,32,99,118,116,115,115,50,115,100,32,99,118,116,115,100,50,115,115,32,115,104,117,102,112,115,32,115,104,117,102,112,100,32,117,110,112,99,107,108,112,115,32,117,110,112,99,107,108,112,100,32,117,110,112,99,107,104,112,115,32,117,110,112,99,107,104,112,100,32,112,97,100,100,98,32,112,97,100,100,119,32,112,97,100,100,100,32,112,97,100,100,113,32,112,115,117,98,98,32,112,115,117,98,119,32,112,115,117,98,100,32,112,115,117,98,113,32,112,109,117,108,108,119,32,112,109,117,108,108,100,32,112,109,117,108,117,100,113,32,112,97,110,100,32,112,97,110,100,110,32,112,111,114,32,112,120,111,114,32,112,99,109,112,101,113,98,32,112,99,109,112,101,113,119,32,112,99,109,112,101,113,100,32,112,99,109,112,103,116,98,32,112,99,109,112,103,116,119,32,112,99,109,112,103,116,100,32,112,109,105,110,117,98,32,112,109,97,120,117,98,32,112,109,105,110,115,119,32,112,109,97,120,115,119,32,112,97,118,103,98,32,112,97,118,103,119,32,112,115,97,100,98,119,32,112,117,110,112,99,107,108,98,119,32,112,117,110,112,99,107,108,119,100,32,112,117,110,112,99,107,108,100,113,32,112,117,110,112,99,107,108,113,100,113,32,112,117,110,112,99,107,104,98,119,32,112,117,110,112,99,107,104,119,100,32,112,117,110,112,99,107,104,100,113,32,112,117,110,112,99,107,104,113,100,113,32,112,97,99,107,115,115,119,98,32,112,97,99,107,117,115,119,98,32,112,97,99,107,115,115,100,119,32,112,97,99,107,117,115,100,119,32,112,115,104,117,102,98,32,112,104,97,100,100,119,32,112,104,97,100,100,100,32,112,97,98,115,98,32,112,97,98,115,119,32,112,97,98,115,100,32,112,115,108,108,119,32,112,115,108,108,100,32,112,115,108,108,113,32,112,115,114,108,119,32,112,115,114,108,100,32,112,115,114,108,113,32,112,115,114,97,119,32,112,115,114,97,100,32,112,115,108,108,100,113,32,112,115,114,108,100,113,32,112,115,104,117,102,100,32,112,115,104,117,102,108,119,32,112,115,104,117,102,104,119,32,112,97,108,105,103,110,114,32,112,98,108,101,110,100,119,32,112,109,111,118,109,115,107,98,32,112,116,101,115,116,32,114,111,117,110,100,115,115,32,114,111,117,110,100,115,100,32,118,109,111,118,97,112,115,32,118,109,111,118,117,112,115,32,118,109,111,118,97,112,100,32,118,109,111,118,117,112,100,32,118,109,111,118,100,113,97,32,118,109,111,118,100,113,117,32,118,97,100,100,112,115,32,118,97,100,100,112,100,32,118,97,100,100,115,115,32,118,97,100,100,115,100,32,118,115,117,98,112,115,32,118,115,117,98,112,100,32,118,115,117,98,115,115,32,118,115,117,98,115,100,32,118,109,117,108,112,115,32,118,109,117,108,112,100,32,118,109,117,108,115,115,32,118,109,117,108,115,100,32,118,100,105,118,112,115,32,118,100,105,118,112,100,32,118,100,105,118,115,115,32,118,100,105,118,115,100,32,118,109,105,110,112,115,32,118,109,105,110,112,100,32,118,109,97,120,112,115,32,118,109,97,120,112,100,32,118,97,110,100,112,115,32,118,97,110,100,112,100,32,118,111,114,112,115,32,118,111,114,112,100,32,118,120,111,114,112,115,32,118,120,111,114,112,100,32,118,112,97,100,100,98,32,118,112,97,100,100,119,32,118,112,97,100,100,100,32,118,112,97,100,100,113,32,118,112,115,117,98,98,32,118,112,115,117,98,119,32,118,112,115,117,98,100,32,118,112,115,117,98,113,32,118,112,97,110,100,32,118,112,97,110,100,110,32,118,112,111,114,32,118,112,120,111,114,32,118,112,99,109,112,101,113,98,32,118,112,99,109,112,101,113,119,32,118,112,99,109,112,101,113,100,32,118,112,115,104,117,102,98,32,118,112,115,104,117,102,100,32,118,112,97,108,105,103,110,114,32,118,112,98,108,101,110,100,118,98,32,118,122,101,114,111,117,112,112,101,114,32,118,122,101,114,111,97,108,108,32,118,112,116,101,115,116,32,118,102,109,97,100,100,49,51,50,112,115,32,118,102,109,97,100,100,50,49,51,112,115,32,118,102,109,97,100,100,50,51,49,112,115,32,118,102,109,97,100,100,49,51,50,112,100,32,118,102,109,97,100,100,50,49,51,112,100,32,118,102,109,97,100,100,50,51,49,112,100]
def nmL:List (List UInt8):=XT Qlx
def nmF (op:Int):List UInt8:=if Ze op then nmL.getD (op - 1).toNat [] else[]
def QBh:nmL.length=322:=by decide +kernel
def QJy:Qip=(.seq (.ops [Ow 3 (.alloc 3 [.Z 0]),Ov (.st 1 (t 3) (Ci 0))]) (.seq (.seq (.ops [Ow 8 (.call 79 [(.const (.string (mkS Qlx))),(.const (.string (mkS [32])))])]) (.block 0 (.rangeF (t 8) [9] (.ops [Om 4 (t 9)]) Qcn))) (.seq (.ops [Ov (.st 1 (t 2) (.const (.string (mkS []))))]) .ret))):=rfl
def Qxz (op:Int)(H:Qa):Qe Pg 45 [.Z op] H λu H'=>u=.string (mkS (nmF op))∧Ext H H':=by
 refine Qvb λaZ=>?_;simp only[Qmn,Qb,simprocAttr];refine(Qb1 op _).w ?_;rintro _ H1 aS aK ⟨rfl,ai⟩;have ay:Ext H H1:=by rw[ai];exact((Ext.refl H).push _).push _
 have ar:H1.y=H.y+2:=by rw[ai];rfl
 have aE:H1.get H.y=some (.C [.Z op] 3):=by rw[ai,Qc,Le (by rw[Qd];omega),Qc,Lc rfl]
 have g1:H1.get (H.y+1)=some (.C [.string (mkS [])] 9):=by rw[ai,Qc,Lc (by rw[Qd])]
 clear ai;unfold nmF;cases ax:Ze op with
 | false=>
  simp only[Qb,simprocAttr,syA,g1,Qki,LV];exact .mk (by rw[Qo];omega) ⟨rfl,ay.set (by omega) _⟩
 | true=>
  have aX:1<=op∧op<=322:=by unfold Ze at ax;simpa using ax
  have aY:¬H1.y=H.y:=by omega
  simp only[QJy,Qb,simprocAttr,ar];generalize ac:(H1.push (.C [.Z 0] 3)).set (H.y+2) (.C [.Z 0] 3)=H2;have aL:H2.Wf:=by rw[<- ac];exact(aK.push _).set (b0:=.C [.Z 0] 3) (by rw[Qc,Lc ar.symm]) _
  have au:H2.y=H.y+3:=by rw[<- ac,Qo,Qd,ar]
  have aM:Ext H H2:=by rw[<- ac];exact(ay.push _).set (by omega) _
  have av:H2.get H.y=some (.C [.Z op] 3):=by rw[<- ac,Qh,Le (by omega),Qc,Le (by omega)];exact aE
  have k1:H2.get (H.y+1)=some (.C [.string (mkS [])] 9):=by rw[<- ac,Qh,Le (by omega),Qc,Le (by omega)];exact g1
  have k2:H2.get (H.y+2)=some (.C [.Z 0] 3):=by rw[<- ac,Qh,Lc rfl]
  clear ac;refine(QzX Qlx H2).w ?_;rintro _ H3 am ba ⟨rfl,ad⟩;have am:H3.y=H.y+6:=by rw[ad];simp only[Qd,au]
  have aN:Ext H H3:=by rw[ad];exact((aM.push _).push _).push _
  have old:∀id b,H2.get id=some b->H3.get id=some b:=λid b aj=>by
   have:=aL.lt aj;rw[ad,Qc,Le (by simp only[Qd];omega),Qc,Le (by simp only[Qd];omega),Qc,Le (by omega)];exact aj
  have aO:H3.get (H.y+3)=some (.C [.string (mkS Qlx)] 9):=by
   rw[ad,Qc,Le (by simp only[Qd];omega),Qc,Le (by simp only[Qd];omega),Qc,Lc au.symm]
  have aP:H3.get (H.y+4)=some (.C [.string (mkS [32])] 9):=by
   rw[ad,Qc,Le (by simp only[Qd];omega),Qc,Lc (by simp only[Qd];omega)]
  have aQ:H3.get (H.y+5)=some (.C [.Z 0] 3):=by
   rw[ad,Qc,Lc (by simp only[Qd];omega)]
  have av:=old _ _ av;have k1:=old _ _ k1;have k2:=old _ _ k2;clear ad old;simp only[Qb,simprocAttr,au,Ya];rw[QaB 140 [] [pS (H.y+4),pS (H.y+3),pS (H.y+5)]];intro L aF;refine⟨by kernel_rfl,?_⟩;simp only[am,LH,Nm]
  let R:Nat->Qa->Prop:=λj H'=>(j:Int)<op∧H.y+7<=H'.y∧Ext H H'∧H'.get H.y=some (.C [.Z op] 3)∧(∃x,H'.get (H.y+1)=some (.C [x] 9))∧H'.get (H.y+2)=some (.C [.Z j] 3)∧H'.get (H.y+4)=some (.C [.string (mkS [32])] 9)∧H'.get (H.y+5)=some (.C [.Z 0] 3)∧H'.get (H.y+6)=some (L none)
  let Z:Qa->Prop:=λH'=>H.y+7<=H'.y∧Ext H H'∧H'.get (H.y+1)=some (.C [.string (mkS (nmL.getD (op - 1).toNat []))] 9)∧H'.get (H.y+6)=some (L (some .ret))
  have aT:(H3.push (L none)).y=H.y+7:=by rw[Qd,am]
  refine(QzY (l:=H.y+6) (bs:=H.y+4) (ss:=H.y+3) (bk:=H.y+5) Qlx (by decide +kernel) (H3.push (L none)) R Z ?_ ?_ ?_ ?_ ?_ ?_).w ?_;·rintro j H' ⟨_,ag,_,_,_,_,ab,aa,_⟩;exact⟨by omega,⟨_,_,ab⟩,⟨_,_,aa⟩⟩
  ·rintro H' ⟨ag,_⟩;omega
  ·rintro j H' x v ⟨al,ag,ab,aa,⟨y,ah⟩,an,ao,ap,aq⟩ hx;exact⟨al,by rw[Qo];exact ag,ab.set (by omega) _,by rw[Qh,Le (by omega)];exact aa,⟨y,by rw[Qh,Le (by omega)];exact ah⟩,by rw[Qh,Le (by omega)];exact an,by rw[Qh,Le (by omega)];exact ao,by rw[Qh,Le (by omega)];exact ap,by rw[Qh,Le (by omega)];exact aq⟩
  ·rintro j w H' x aG ⟨al,ag,ab,aa,⟨y,ah⟩,an,ao,ap,aq⟩ hx;refine aF _ _ _ _ aq rfl ?_;have ae:∀id,id≠H.y+6->(H'.kill (H.y+6)).get id=H'.get id:=λid ak=>by rw[Q0,Le ak]
   have aR:IntKind.i64.wrap ((j:Int)+1)=((j+1:Nat):Int):=by rw[w64 (by unfold I64;omega)];rfl
   have e0:=(ae H.y (by omega)).trans aa;have e1:=(ae (H.y+1) (by omega)).trans ah;have e2:=(ae (H.y+2) (by omega)).trans an;have e4:=(ae (H.y+4) (by omega)).trans ao;have aD:=(ae (H.y+5) (by omega)).trans ap;have e3:=(ae (H.y+3) (by omega)).trans hx;have az:Ext H (H'.kill (H.y+6)):=⟨by show H.y<=H'.y;omega,λid ak=>by rw[ae id (by omega)];exact ab.get id ak⟩;have aW:(H'.kill (H.y+6)).y=H'.y:=rfl;generalize H'.kill (H.y+6)=H4 at *;have aA:(H4.set (H.y+2) (.C [.Z ((j+1:Nat):Int)] 3)).get H.y=some (.C [.Z op] 3):=by rw[Qh,Le (by omega)];exact e0
   have aB:(H4.set (H.y+2) (.C [.Z ((j+1:Nat):Int)] 3)).get (H.y+1)=some (.C [y] 9):=by rw[Qh,Le (by omega)];exact e1
   have aC:(H4.set (H.y+2) (.C [.Z ((j+1:Nat):Int)] 3)).get (H.y+2)=some (.C [.Z ((j+1:Nat):Int)] 3):=by rw[Qh,Lc rfl]
   simp only[Qcn,Qb,simprocAttr,rgA,e2,aR,aA,aC];cases aj:(((j+1:Nat):Int)==op) with
   | true=>
    have aH:(op - 1).toNat=j:=by have:=L0.1 aj;omega
    have aJ:nmL.getD (op - 1).toNat []=w:=by
     rw[aH,LX];show((XT Qlx)[j]?).getD []=w;rw[aG];rfl
    simp only[Qb,simprocAttr,syA,rgA,aB];refine⟨by omega,.inr ⟨by simp only[Qo];omega,((az.set (by omega) _).set (by omega) _).set (by omega) _,?_,by rw[Qh,Lc rfl]⟩⟩;rw[Qh,Le (by omega),Qh,Lc rfl,aJ]
   | false=>
    have aV:=LC.1 aj;simp only[Qb,simprocAttr,rgA];refine⟨by omega,.inl ⟨⟨by omega,by simp only[Qo];omega,(az.set (by omega) _).set (by omega) _,?_,⟨y,?_⟩,?_,?_,?_,by rw[Qh,Lc rfl]⟩,?_⟩⟩
    rotate_right
    ·exact e3
    all_goals (rw[Qh,Le (by omega)])
    ·exact aA
    ·exact aB
    ·exact aC
    all_goals (rw[Qh,Le (by omega)])
    ·exact e4
    exact aD
  ·refine⟨by omega,by omega,aN.push _,?_,⟨.string (mkS []),?_⟩,?_,?_,?_,by rw[Qc,Lc am.symm]⟩
   all_goals (rw[Qc,Le (by omega)])
   ·exact av
   ·exact k1
   ·exact k2
   ·exact aP
   exact aQ
  ·rw[Qc,Le (by omega)];exact aO
  rintro v H5 aU bc aI;rcases aI with⟨al,_⟩ | ⟨ag,ab,aa,ah⟩;·exfalso;have:(XT Qlx).length=322:=QBh;rw[this]at al;omega
  refine⟨some .ret,ah,?_⟩;have aa:(H5.kill (H.y+6)).get (H.y+1)=some (.C [.string (mkS (nmL.getD (op - 1).toNat []))] 9):=by rw[Q0,Le (by omega)];exact aa
  simp only[Qb,simprocAttr,rgA,Qki,aa];exact .mk (by show H.y<=H5.y;omega) ⟨rfl,⟨by show H.y<=H5.y;omega,λid ak=>by rw[Q0,Le (by omega)];exact ab.get id ak⟩⟩
def Qvv (i:Nat):List UInt8:=if i=0 then[32] else[44,32]
def Qfo (next:Int)(l:List Ar):List UInt8:=(l.zipIdx.map λp=>Qvv p.2++Qxw next p.1).flatten
def Qz1 (next:Int)(l:List Ar)(a:Ar):Qfo next (l++[a])=Qfo next l++(Qvv l.length++Qxw next a):=by
 unfold Qfo;rw[List.zipIdx_append];simp
def QrQ {next:Int}{l:List Ar}{i:Nat}{a:Ar}(h:l[i]? = some a):Qfo next (l.take (i+1))=Qfo next (l.take i)++(Qvv i++Qxw next a):=by
 have hi:=(Lk.1 h).1;have:l.take (i+1)=l.take i++[a]:=by rw[Nv,h];rfl
 rw[this,Qz1,Sb,BC (by omega)]
def Quy {next:Int}{l:List Ar}(h:∀a∈l,AOk a):∀i,(Qfo next (l.take i)).length<=200 * i
 | 0=>by simp[Qfo]
 | i+1=>by
  have ad:=Quy (next:=next) h i
  cases hi:l[i]? with
  | none=>
   have aa:l.length<=i:=Db.1 hi;rw[LF (by omega),<- LF aa];omega
  | some a=>
   rw[QrQ hi,Lh,Lh];have ab:=Qxx (next:=next) (h a (Ln hi))
   have ac:(Qvv i).length<=2:=by unfold Qvv;split<;>simp
   omega
def QxB (n:Int):List UInt8:=if(n==1)=true then[32,115,104,111,114,116] else if(n==2)=true then[32,110,101,97,114] else if(n==3)=true then[32,115,116,114,105,99,116] else[]
def QxC (op:Int)(l:List Ar)(aa next:Int):List UInt8×Int:=
 if((QT op l).2.2==0)=true then(if 0<=aa∧aa<=3 then(nmF (QT op l).1++QxB aa++Qfo next (QT op l).2.1,0) else([],2)) else([],(QT op l).2.2)
def QxD:(nmL.all λw=>decide (1<=w.length)&&decide (w.length<=100))=true:=by decide +kernel
def QHh (op:Int):(nmF op).length<=100:=by
 unfold nmF;split
 ·rw[LX];cases h:nmL[(op - 1).toNat]? with
  | none=>simp
  | some w=>
   have:=Li.1 QxD w (Ln h);simp at this;simp;omega
 simp
def QJA {op:Int}(h:Ze op=true):1<=(nmF op).length:=by
 have h':=h;unfold Ze at h';simp only[Lm,Lv]at h';unfold nmF;rw[h,Lc rfl,LX];have aa:=QBh;have:(op - 1).toNat<nmL.length:=by omega
 rw[La this];have:=Li.1 QxD _ (Nb this);simp at this;simp;omega
section
variable {T:Qa->Prop} (hT:QrH T) {H0 H:Qa} (hw0:H0.Wf) (hT0:T H0) {D:Nat} {w:List UInt8} {v:Value}
abbrev KTx (H:Qa)(r:List UInt8×Int):Env->Qa->Prop:=Rt Pg Tryz.f25 H λu H'=>u=.tuple #[.string (mkS r.1),.Z r.2]∧Ext H H'
include hT hT0 hw0 in
def QHi (aS:Ext H H0){I:Nat}{op next:Int}{va:Value}{l:List Ar}(al:H0.get I=some (.C [.Z op,va] 33))(aR:QQ H0 va l)(ba:l.length<=5)(aq:∀a∈l,AOk a)
  {p:Value} {H':Qa} {A:Env} (am:BAt H0 H' D w p v) (bj:1<=w.length∧w.length<=1000) (aW:A 9=.P D) (r3:A 3=.P I) (r2:A 2=.Z next) (e:Nat->Env->Qa->Prop):
  Qk Pg KN ⟨KTx H (w++Qfo next l,0),e⟩ (KTx H (w++Qfo next l,0)) A H':=by
 obtain⟨a0,cap,rfl,aC⟩:=aR;have aJ:H'.get I=some (.C [.Z op,.slice a0 l.length cap] 33):=by rw[am.ext.get I (hw0.lt al)];exact al
 obtain⟨r,ak⟩:∃r,r=(w++Qfo next l,(0:Int)):=⟨_,rfl⟩;rw[<- ak];simp only[KN,Qb,simprocAttr,r3,aJ];refine Qp (λm A' H2=>∃ (i:Nat) (av aA:Value),i<=l.length∧m=l.length - i∧BAt H0 H2 D (w++Qfo next (l.take i)) av aA∧A' 9=.P D∧A' 2=.Z next∧A' 47=.slice a0 l.length cap∧A' 48=.Z l.length∧A' 49=.Z i) l.length ?_ ?_
 ·refine⟨0,p,v,L7 _,by omega,by simpa[Qfo] using am,?_,?_,?_,?_,?_⟩
  all_goals simp only[Qf,simprocAttr,aW,r2]
  all_goals rfl
 rintro m A' H2 ⟨i,av,aA,hi,rfl,aa,aj,ax,ay,az,ai⟩;have aE:=Quy (next:=next) aq i
 simp only[QgS,Qb,simprocAttr,az,ai];refine Qg (λab=>?_) (λab=>?_)
 ·have ab:i<l.length:=by have:=Lg ab;omega
  obtain⟨a,ah⟩:∃a,l[i]? = some a:=⟨_,La ab⟩;have aN:=aq a (Ln ah);obtain⟨b,e,ro,rfl,ap⟩:=aC (by omega);have aK:H2.get b=some (.cells (Qm l) e ro):=by rw[aa.ext.get b (hw0.lt ap)];exact ap
  have aQ:=X4 l i a ah;have aL:i * 11+11<=(Qm l).length:=by rw[Q7];omega
  have d1:(0:Int)<=i∧(i:Int)<l.length:=by omega
  have d3:(i:Int).toNat=i:=by omega
  have aB:IntKind.i64.wrap ((i:Int)+1)=((i+1:Nat):Int):=by rw[w64 (by unfold I64;omega)];omega
  have aF:(a.cells.all λx=>x.oneCell')=true:=rfl;simp only[QgR,Qb,simprocAttr,aj,ay,ai,d1,d3,aK,aQ,cgA,We];refine⟨aL,aF,by omega,?_⟩;generalize ae:(H2.push _).set H2.y _=H3;have aT:Ext H2 H3:=by rw[<- ae];exact((Ext.refl H2).push _).set (Lb _) _
  have ag:H3.get H2.y=some (.C a.cells 95):=by rw[<- ae,Qh,Lc rfl]
  have ar:H3.Wf:=by rw[<- ae];exact(aa.wf.push _).set (b0:=.C [.Z 0,.Z 0,.Z 0,.Z 0,.Z 0,.Z 0,.Z 0,.Z 0,.Z 0,.Z 0,.Z 0] 95) (by rw[Qc,Lc rfl]) _
  clear ae;have aG:=aa.go aT ar;have aY:=aa.wf.lt aa.get;have aM:=ar.lt ag;refine(QEC aG ((i:Int)==0) [32] [44,32] (by simp only[Lh,Lo,L9];omega)).w ?_;rintro _ H4 bc bm ⟨rfl,bp,bq,an,aP⟩;have ao:H4.get H2.y=some (.C a.cells 95):=by
   rw[aP.keep H2.y aM (by omega) (λhi=>by have:=Qvp aa hi;omega)];exact ag
  have aO:(bif ((i:Int)==0) then[32] else[44,32])=Qvv i:=by
   unfold Qvv;cases i with
   | zero=>rfl
   | succ k=>rfl
  rw[aO]at an;obtain⟨ac,ad⟩:∃ac,ac=a.cells:=⟨_,rfl⟩;have aD:ac.take 11=ac:=by rw[ad];rfl
  rw[<- ad]at ag ao;simp only[Qb,simprocAttr,cgA,ag,ao,ax,aD];have aI:Qj H4.y 6 (Value.agg ac.toArray)=true:=by rw[ad];simp[Qj,Ab.plain,Ar.cells]
  refine⟨by rw[ad];exact Lb _,aI,?_⟩;rw[ad];have bh:(Qvv i).length<=2:=by unfold Qvv;split<;>simp
  refine(QrP hT hw0 hT0 an aN next (by rw[Lh,Lh];omega)).w ?_;rintro _ H5 bd bn ⟨rfl,aV,aX,aH,bi⟩;simp only[Wu,simprocAttr,ai,aB];refine⟨l.length - (i+1),by omega,i+1,aV,aX,by omega,rfl,?_,?_,?_,?_,?_,?_⟩;·rw[QrQ ah,<- LQ,<- LQ];exact aH
  all_goals simp only[Qf,simprocAttr,aj,ax,ay,az]
 have ab:i=l.length:=by have:=Ll ab;omega
 subst ab;rw[Nr]at aa;have aZ:=aa.get;simp only[Qb,simprocAttr,aj];refine(Qut aa (by rw[Lh];omega) (by rw[Lh];rw[Nr]at aE;omega)).w ?_;rintro _ H6 bg bo ⟨rfl,aU⟩;subst ak;simp only[Wu,simprocAttr,Qcl];have au:=aS.trans aU;exact .mk au.y ⟨rfl,au⟩
include hT in
def Qvw (op:Int)(va:Value)(l:List Ar)(aJ:QQ H va l)(bh:l.length<=1000)(aE:∀a∈l,I64 a.n)(aa next:Int)(aY:T H):Qe Pg 25 [.agg #[.Z op,va],.Z aa,.Z next] H λu H'=>u=.tuple #[.string (mkS (QxC op l aa next).1),.Z (QxC op l aa next).2]∧Ext H H':=by
 refine Qs6 λaq=>?_;obtain⟨r,ac⟩:∃r,r=QxC op l aa next:=⟨_,rfl⟩;rw[<- ac];unfold QxC at ac;have aP:=(Ext.refl H).push (.C [.Z op,va] 33);have aL:=aq.push (.C [.Z op,va] 33);have ap:(H.push (.C [.Z op,va] 33)).get H.y=some (.C [.Z op,va] 33):=by rw[Qc,Lc rfl]
 have bq:QQ (H.push (.C [.Z op,va] 33)) va l:=aJ.ext aq aP;have aG:=@Qxv op l aE;obtain⟨c0,aU,rfl⟩:=Wd aJ;simp only[Qkh,Qb,simprocAttr];generalize H.push _=H1 at *;refine(QgA op l H1 _ bq bh aE).w ?_;rintro _ H2 b8 aM ⟨aQ,aA,rfl,aK,bc⟩;have am:H2.get H.y=some (.C [.Z op,.slice c0 l.length aU] 33):=by rw[aQ.get _ (aL.lt ap)];exact ap
 have bz:=aP.trans aQ;generalize QT op l=c at *;obtain⟨ab,ad,aB⟩:=c;obtain⟨c2,ag,rfl⟩:=Wd aK;simp only at ac aG;have ar:∀c,Ext H (H2.set H.y c):=λc=>bz.set (Lb _) c;cases h:aB==0 with
 | false=>
  rw[h,Le (by simp)]at ac;subst ac;simp only[Qb,simprocAttr,am,h,Qcl];exact .mk (ar _).y ⟨rfl,ar _⟩
 | true=>
  have aF:aB=0:=by simpa using h
  obtain⟨rfl,bu,bi,bo⟩:=aG aF;rw[h,Lc rfl]at ac;have bw:=λc=>aM.set am c;have bj:¬H.y=H2.y:=by have:=aM.lt am;omega
  simp only[aF,Qb,simprocAttr,am,bj,LO,QgW];have au:=ar (.C [.Z ab,.slice c2 ad.length ag] 33);have aN:=bw (.C [.Z ab,.slice c2 ad.length ag] 33);have bd:(H2.set H.y (.C [.Z ab,.slice c2 ad.length ag] 33)).get H.y=some (.C [.Z ab,.slice c2 ad.length ag] 33):=by rw[Qh,Lc rfl]
  have bm:(H2.set H.y (.C [.Z ab,.slice c2 ad.length ag] 33)).y=H2.y:=Qo ..;have br:QQ (H2.set H.y (.C [.Z ab,.slice c2 ad.length ag] 33)) (.slice c2 ad.length ag) ad:=by
   obtain⟨a9,aT,aD,aW⟩:=aK;refine⟨a9,aT,aD,λbp=>?_⟩;obtain⟨b,e,ro,aC,aV⟩:=aW bp;refine⟨b,e,ro,aC,?_⟩;have ao:H1.y<=b:=by
    subst aC;exact(bc _ _ _ aD).1
   have:=aL.lt ap;rw[Qh,Le (by omega)];exact aV
  generalize H2.set H.y _=H4 at *;have ao:=QHg H4 aN;rw[bm]at ao;have aX:T H4:=hT.q.ext H H4 aq aY au;have bC:=QHh ab;have bD:=QJA bu;have al:∀ (w:List UInt8) (A:Env) (H':Qa) (aS aA:Value),0<=aa∧aa<=3->w=nmF ab++QxB aa->BAt H4 H' H2.y w aS aA->A 9=.P H2.y->A 3=.P H.y->A 2=.Z next->Qk Pg KN ⟨KTx H r,Xi⟩ (KTx H r) A H':=by
   intro w A H' aS aA bg an aZ b5 r3 r2;rw[Lc bg]at ac;subst ac;rw[<- an];have b7:(QxB aa).length<=7:=by unfold QxB;repeat' (split<;>try decide)
   exact QHi hT aN aX au bd br bi bo aZ ⟨by rw[an,Lh];omega,by rw[an,Lh];omega⟩ b5 r3 r2 Xi
  refine(Qxz ab _).w ?_;rintro _ H6 b9 bx ⟨rfl,b2⟩;have ba:=ao.go b2 bx;simp only[Qb,simprocAttr,syA];refine(K8 ba [nmF ab] 1 rfl (by rw[VU];simp;omega) (by simp)).w ?_;rintro _ H7 bA bF ⟨rfl,b3,b6,ah,bE⟩;rw[VU,LH]at ah;simp only[Wu,simprocAttr];refine Qg (λav=>?_) (λav=>?_)
  ·have b4:aa=0:=by simpa using av
   simp only[Wu,simprocAttr];refine al (nmF ab) _ _ b3 b6 (by omega) (by rw[b4];simp[QxB]) ah ?_ ?_ ?_
   all_goals simp only[Qf,simprocAttr]
  simp only[QgV,Qb,simprocAttr];refine Qg (λax=>?_) (λax=>?_)
  ·have aj:aa=1:=by simpa using ax
   simp only[Qb,simprocAttr,syA];refine(K8 ah [[32,115,104,111,114,116]] 1 rfl (by rw[VU];simp only[Lo,L9];omega) (by simp)).w ?_;rintro _ H8 aH aO ⟨rfl,ai,ak,ae,aI⟩;rw[VU]at ae;simp only[Wu,simprocAttr];refine al _ _ _ ai ak (by omega) (by rw[aj];rfl) ae ?_ ?_ ?_
   all_goals simp only[Qf,simprocAttr]
  simp only[QgU,Qb,simprocAttr];refine Qg (λay=>?_) (λay=>?_)
  ·have aj:aa=2:=by simpa using ay
   simp only[Qb,simprocAttr,syA];refine(K8 ah [[32,110,101,97,114]] 1 rfl (by rw[VU];simp only[Lo,L9];omega) (by simp)).w ?_;rintro _ H8 aH aO ⟨rfl,ai,ak,ae,aI⟩;rw[VU]at ae;simp only[Wu,simprocAttr];refine al _ _ _ ai ak (by omega) (by rw[aj];rfl) ae ?_ ?_ ?_
   all_goals simp only[Qf,simprocAttr]
  simp only[QgT,Qb,simprocAttr];refine Qg (λaz=>?_) (λaz=>?_)
  ·have aj:aa=3:=by simpa using az
   simp only[Qb,simprocAttr,syA];refine(K8 ah [[32,115,116,114,105,99,116]] 1 rfl (by rw[VU];simp only[Lo,L9];omega) (by simp)).w ?_;rintro _ H8 aH aO ⟨rfl,ai,ak,ae,aI⟩;rw[VU]at ae;simp only[Wu,simprocAttr];refine al _ _ _ ai ak (by omega) (by rw[aj];rfl) ae ?_ ?_ ?_
   all_goals simp only[Qf,simprocAttr]
  have bn:¬ (0<=aa∧aa<=3):=by
   simp only[LC]at av ax ay az;omega
  rw[Le bn]at ac;subst ac;simp only[Wu,simprocAttr,Qcl];have aR:=au.trans ah.ext;exact .mk aR.y ⟨rfl,aR⟩
end
