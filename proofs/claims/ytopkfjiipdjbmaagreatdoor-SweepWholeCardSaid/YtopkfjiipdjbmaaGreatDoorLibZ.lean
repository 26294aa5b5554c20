import Derived.Test.YtopkfjiipdjbmaaGreatDoorLibA
import Derived.Test.YtopkfjiipdjbmaaGreatDoorAbD
import Derived.Test.YtopkfjiipdjbmaaGreatDoorLibX
import Derived.ProofKit
import Derived.OpenShut
import Derived.ChangeOld
import Derived.Deep.Slices
import Derived.Test.YtopkfjiipdjbmaaGreatDoorLibR
set_option linter.defProp false
set_option linter.unusedVariables false
set_option linter.unusedSimpArgs false
set_option maxRecDepth 100000
set_option maxHeartbeats 4000000
namespace Go.Proofs.YtopkfjiipdjbmaaGreatDoor.code
open Go.Ab Go.ChangeShapes Go.WideShapes Go.ChangeAt Go.RowKit
def QDy {z:Int}(h:(Lit.int .i64 z).wf=true):I64 z:=by
 have:=bounds_i64 h;unfold I64;omega
def QFU {z:Int}(h:(Lit.int .u8 z).wf=true):0<=z∧z<256:=by
 have:=bounds_u8 h;omega
def QIr:Qiy (Xs Pg.globals.size tab.tabs):=λid b h=>by
 obtain⟨t,_,_,rfl⟩:=Yh h;rfl
def QMP (left:Int):List UInt8:=(if hit left 0=true then[102] else[])++((if hit left 1=true then[242] else[])++(if hit left 2=true then[243] else[]))
def QNl (bs:List Int)(b:UInt8)(n:Int)(aa:(b.toNat:Int)=n)(l:List UInt8)(c:Rr):Qss bs (b::l) c=if((XF bs c n).1==0)=true then Qss bs l (XF bs c n).2 else XF bs c n:=by
 subst aa;rfl
def QNh (bs:List Int):∀ (n:Nat) (left:Int) (c:Rr),cnt left<=n->Qnt bs n left c=Qss bs (QMP left) c
 | 0,left,c,h=>by
  have ad:hit left 0=false:=by unfold cnt at h;cases e:hit left 0<;>simp[e]at h ⊢
  have ae:hit left 1=false:=by unfold cnt at h;cases e:hit left 1<;>simp[e]at h ⊢
  have ag:hit left 2=false:=by unfold cnt at h;cases e:hit left 2<;>simp[e]at h ⊢
  unfold QMP;rw[ad,ae,ag];rfl
 | n+1,left,c,h=>by
  cases e0:hit left 0 with
  | true=>
   have ac:=QHO left 0 (by omega) e0;have aa:QMP left=102::QMP (Qsr left (XN 0)):=by
    unfold QMP;rw[Qv2 left 0 0 (by omega) (by omega),Qv2 left 0 1 (by omega) (by omega),Qv2 left 0 2 (by omega) (by omega),e0];simp
   rw[QE8 bs n left c 0 (by omega) (λj ab=>by omega) e0,aa,QNl bs 102 (Gd 0) rfl,QNh bs n _ _ (by omega)]
  | false=>
   cases e1:hit left 1 with
   | true=>
    have ac:=QHO left 1 (by omega) e1;have aa:QMP left=242::QMP (Qsr left (XN 1)):=by
     unfold QMP;rw[Qv2 left 1 0 (by omega) (by omega),Qv2 left 1 1 (by omega) (by omega),Qv2 left 1 2 (by omega) (by omega),e0,e1];simp[e0]
    rw[QE8 bs n left c 1 (by omega) (λj ab=>by rw[show j=0 by omega];exact e0) e1,aa,QNl bs 242 (Gd 1) rfl,QNh bs n _ _ (by omega)]
   | false=>
    cases e2:hit left 2 with
    | true=>
     have ac:=QHO left 2 (by omega) e2;have aa:QMP left=243::QMP (Qsr left (XN 2)):=by
      unfold QMP;rw[Qv2 left 2 0 (by omega) (by omega),Qv2 left 2 1 (by omega) (by omega),Qv2 left 2 2 (by omega) (by omega),e0,e1,e2];simp[e0]
     rw[QE8 bs n left c 2 (by omega) (λj ab=>by rcases(show j=0∨j=1 by omega) with rfl | rfl<;>assumption) e2,aa,QNl bs 243 (Gd 2) rfl,QNh bs n _ _ (by omega)]
    | false=>
     rw[QC9 bs (n+1) left c (λj ab=>by rcases(show j=0∨j=1∨j=2 by omega) with rfl | rfl | rfl<;>assumption)];unfold QMP;rw[e0,e1,e2];rfl
def QNp (bs:List Int)(c:Rr):QtF bs c=QuB bs (Qss bs (QMP c.x.f.pre) c):=by
 unfold QtF;rw[QNh bs 4 _ _ (N8 (QJ2 _) (by omega))]
def QM8 {bs:List Int}{c:Rr}{n:Int}(ad:bs.length<=1000000)(h:InB bs c.p)(aa:(XF bs c n).1=0):c.p<bs.length∧Zv bs c.p=n∧(XF bs c n).2={c with p:=c.p+1}:=by
 unfold InB at h;have e:XF bs c n=((Qqn bs c.p n).1,{c with p:=(Qqn bs c.p n).2}):=rfl;rw[e]at aa ⊢;simp only at aa;unfold Qqn at aa ⊢
 by_cases ac:(bs.length:Int)<=c.p;·rw[Lc ac]at aa;cases aa
 rw[Le ac]at aa ⊢
 by_cases ab:(IntKind.i64.wrap (bs.getD c.p.toNat 0)==n)=false;·rw[Lc ab]at aa;cases aa
 rw[Le ab];refine⟨by omega,?_,?_⟩;·simpa[Zv] using ab
 simp only;rw[w64 (by unfold I64;omega)]
def QNo {bs:List Int}(ab:bs.length<=1000000):∀ (l:List UInt8) (c:Rr),InB bs c.p->(Qss bs l c).1=0->(Qss bs l c).2={c with p:=c.p+l.length}∧c.p+l.length<=bs.length∧∀j (h:j<l.length),Zv bs (c.p+j)=l[j].toNat
 | [],c,h,h0=>⟨by show c=_;simp,by simp;exact h.2,λj aa=>absurd aa (Nat.not_lt_zero _)⟩
 | n::l,c,h,h0=>by
  have e:Qss bs (n::l) c=if((XF bs c n.toNat).1==0)=true then Qss bs l (XF bs c n.toNat).2 else XF bs c n.toNat:=rfl
  rw[e]at h0 ⊢
  by_cases z:((XF bs c n.toNat).1==0)=true
  ·rw[Lc z]at h0 ⊢;obtain⟨ae,ac,ad⟩:=QM8 ab h (by simpa using z);rw[ad]at h0 ⊢;have h':InB bs (c.p+1):=by unfold InB at *;omega
   obtain⟨k1,k2,k3⟩:=QNo ab l {c with p:=c.p+1} h' h0;refine⟨?_,?_,?_⟩;·rw[k1];simp only[Lo];congr 1;omega
   ·simp only[Lo]at k2 ⊢;omega
   intro j aa;cases j with
   | zero=>simpa using ac
   | succ j=>
    have:=k3 j (by simpa using aa);simp only at this;rw[show c.p+((j+1:Nat):Int)=c.p+1+j by omega,this];rfl
  rw[Le z]at h0;exfalso;rw[h0]at z;exact z rfl
def QM6 (f:Fm):QbQ f=QMP f.pre++QdF f.map:=by
 have e:∀i,hit f.pre i=QC8 f.pre (XN i):=λ_=>rfl;unfold QbQ QMP;rw[e 0,e 1,e 2];show(bif QC8 f.pre 1 then[102] else[])++_=((if QC8 f.pre 1=true then[102] else[])++((if QC8 f.pre 2=true then[242] else[])++(if QC8 f.pre 4=true then[243] else[])))++_;cases QC8 f.pre 1<;>cases QC8 f.pre 2<;>cases QC8 f.pre 4<;>simp
def QNi (bs:List Int)(p:Int):Bool:=decide (64<=Zv bs p)&&decide (Zv bs p<=79)
def QNz {bs:List Int}{c:Rr}(ad:bs.length<=1000000)(h:InB bs c.p)(aa:(QdE bs c).1=0):c.p<bs.length∧(QdE bs c).2.x=c.x∧(QdE bs c).2.p=c.p+(if QNi bs c.p=true then 1 else 0):=by
 unfold InB at h;have e:QdE bs c=if(bs.length:Int)<=c.p then(9,c)
  else if(decide (64<=Zv bs c.p)&&decide (Zv bs c.p<=79))=true then QeT (QHE c (Zv bs c.p - 64).toNat) (QdD (Zv bs c.p - 64).toNat 4 3) else QeT c 0:=rfl
 rw[e]at aa ⊢
 by_cases ac:(bs.length:Int)<=c.p;·rw[Lc ac]at aa;cases aa
 rw[Le ac]at aa ⊢;refine⟨by omega,?_⟩;unfold QNi
 by_cases ab:(decide (64<=Zv bs c.p)&&decide (Zv bs c.p<=79))=true;·rw[Lc ab,Lc ab,Qso];refine⟨rfl,?_⟩;show IntKind.i64.wrap (c.p+1)=c.p+1;rw[w64 (by unfold I64;omega)]
 rw[Le ab,Le ab,Qso];exact⟨rfl,by omega⟩
def QOD {bs:List Int}{c:Rr}(ad:bs.length<=1000000)(h:InB bs c.p)(aa:(QtF bs c).1=0):
  (∀j (ai:j<(QMP c.x.f.pre).length),Zv bs (c.p+j)=(QMP c.x.f.pre)[j].toNat)∧c.p+(QMP c.x.f.pre).length<bs.length∧
  ∃q:Int,q=c.p+(QMP c.x.f.pre).length+(if QNi bs (c.p+(QMP c.x.f.pre).length)=true then 1 else 0)∧
   (∀j (ai:j<(QdF c.x.f.map).length),Zv bs (q+j)=(QdF c.x.f.map)[j].toNat)∧q+(QdF c.x.f.map).length<=bs.length∧(QtF bs c).2.p=q+(QdF c.x.f.map).length∧(QtF bs c).2.x=c.x:=by
 rw[QNp]at aa ⊢;unfold QuB at aa ⊢;generalize QMP c.x.f.pre=pl at *
 by_cases ab:((Qss bs pl c).1==0)=true
 ·rw[Lc ab]at aa ⊢;obtain⟨a1,a2,a3⟩:=QNo ad pl c h (by simpa using ab);rw[a1]at aa ⊢;have ah:InB bs (c.p+pl.length):=by unfold InB at *;omega
  unfold Qst at aa ⊢
  by_cases ac:((QdE bs {c with p:=c.p+pl.length}).1==0)=true
  ·rw[Lc ac]at aa ⊢;obtain⟨b1,ae,ag⟩:=QNz (c:={c with p:=c.p+pl.length}) ad ah (by simpa using ac);have aj:=QE9 (bs:=bs) (c:={c with p:=c.p+pl.length}) ah ad;generalize QdE bs {c with p:=c.p+pl.length}=x at *;simp only at b1 ae ag;rw[ae]at aa ⊢;obtain⟨d1,d2,d3⟩:=QNo ad _ x.2 aj aa;refine⟨a3,b1,x.2.p,ag,d3,d2,?_,?_⟩;·rw[d1]
   rw[d1];exact ae
  rw[Le ac]at aa;rw[aa]at ac;exact absurd rfl ac
 rw[Le ab]at aa;rw[aa]at ab;exact absurd rfl ab
def QFV (n:Nat):Bool:=(IntKind.i64.wrap (IntKind.u8.wrap (BitVec.ofInt IntKind.u8.bits (n:Int) &&& BitVec.ofInt IntKind.u8.bits 7).toNat)==((n % 8:Nat):Int))&&(QJY (n:Int)==((n - n % 8:Nat):Int))&&(IntKind.i64.wrap (n:Int)==(n:Int))&&(QyN (n:Int)==(decide (64<=n)&&decide (n<=79)))
def QDz:(List.range 256).all QFV=true:=by kernel_rfl
def QFW {n:Nat}(h:n<256):QFV n=true:=Li.1 QDz n (LU.2 h)
def QsU (bs:List Int):Prop:=∀b∈bs,0<=b∧b<=255
def QsU.at {bs:List Int}(ag:QsU bs){p:Int}(ah:0<=p)(h:p<bs.length):∃n:Nat,n<256∧bs[p.toNat]? = some (n:Int)∧bs.getD p.toNat 0=n∧Zv bs p=n:=by
 have aa:p.toNat<bs.length:=by omega
 obtain⟨ai,aj⟩:=ag _ (Nb aa);obtain⟨n,ae⟩:∃n:Nat,bs[p.toNat]=(n:Int):=⟨bs[p.toNat].toNat,by omega⟩;have ad:n<256:=by omega
 have ac:bs.getD p.toNat 0=n:=by rw[LX,La aa,ae];rfl
 have ab:=QFW ad;unfold QFV at ab;simp only[Lm,L0]at ab;exact⟨n,ad,by rw[La aa,ae],ac,by unfold Zv;rw[ac];exact ab.1.2⟩
def QNm (f:Fm)(c:Int):Bool:=bif decide (0<=Qy f.slots 4) then QJY c==f.code else IntKind.i64.wrap c==f.code
def QOP {bs:List Int}{c:Rr}(ad:bs.length<=1000000)(ag:QsU bs)(ah:I64 c.x.f.code)(h:InB bs c.p)(aa:(opF bs c).1=0):c.p<bs.length∧QNm c.x.f (bs.getD c.p.toNat 0)=true:=by
 have e:opF bs c=if(decide (Qy c.x.f.slots 4<0))=true then XF bs c c.x.f.code
  else if(bs.length:Int)<=c.p then(9,c) else XF bs {c with low:=Qyc bs c.p} (IntKind.i64.wrap (c.x.f.code+Qyc bs c.p)):=rfl
 rw[e]at aa;unfold QNm;generalize Qy c.x.f.slots 4=i4 at *
 by_cases z:decide (i4<0)=true
 ·rw[Lc z]at aa;obtain⟨a1,a2,_⟩:=QM8 ad h aa;have ac:decide (0<=i4)=false:=by simp at z ⊢;omega
  refine⟨a1,?_⟩;rw[ac,Ls];simpa[Zv] using a2
 rw[Le z]at aa;have ac:decide (0<=i4)=true:=by simp at z ⊢;omega
 by_cases g:(bs.length:Int)<=c.p;·rw[Lc g]at aa;cases aa
 rw[Le g]at aa;obtain⟨a1,a2,_⟩:=QM8 (c:={c with low:=Qyc bs c.p}) ad h aa;obtain⟨n,aj,al,ae,ak⟩:=ag.at h.1 (by omega);have ab:=QFW aj;unfold QFV at ab;simp only[Lm,L0]at ab;have ai:Qyc bs c.p=((n % 8:Nat):Int):=by unfold Qyc;rw[ae];exact ab.1.1.1
 simp only at a2;rw[ak,ai]at a2;refine⟨a1,?_⟩;rw[ac,Lq,ae,ab.1.1.2,L0];rw[NU]at a2;unfold I64 at ah;omega
def Qwv (W:World)(v:Value):Prop:=v=.slice none 0 0∨∃a len cap,∃l:List Int,v=.slice (some a) len cap∧len<=cap∧cap<UNK∧l.length=len∧QsU l∧(0<len->a.block<W.heap.size)∧∀ (j:Nat) b,l[j]? = some b->W.cell? (a.add j)=some (.int .u8 b)
def QIs {H:Type}{enc:TypeId×Value->H}{W:World}{am tb ae:Nat}{v:Value}{x:DataW H×List MemPlace}(az:Pg.underlying tb=some (.slice ae))(ap:Pg.underlying ae=some (.int .u8))(an:Pg.cellsOf ae=1)
  (h:DataW.trod enc Pg W 0 (λ_=>true) true am tb v.cells.toList=some x) (ac:∃a len cap,v=.slice a len cap):Qwv W v:=by
 obtain⟨a0,aD,al,rfl⟩:=ac;rcases Deep.open_slice az h with⟨aa,_⟩ | ⟨a,len,cap,m,n,D,Pl,aa,_,av,ao,ak,_,aq⟩;·left;simpa[Value.cells] using aa
 right;have ac:Value.slice a0 aD al=.slice (some a) len cap:=by simpa[Value.cells] using aa
 have ak:m=cap:=by simpa using ak
 have ar:∀i,i<len->∃z:Int,(0<=z∧z<=255)∧W.cell? (a.add i)=some (.int .u8 z):=λi hi=>by
  obtain⟨aE,ah,aA⟩:=aq i (by omega);obtain⟨z,aC,_,aB⟩:=BT ap aA;rw[an,NH]at ah;obtain⟨_,au⟩:=QCQ ah;have ag:=au 0 (by decide);rw[ZK,N9]at ag;have aF:=QFU aB;refine⟨z,by omega,?_⟩;rw[ag,aC];rfl
 obtain⟨f,ab⟩:=Deep.choose_lt ar;refine⟨a,len,cap,(List.range len).map f,ac,av,by unfold maxLen at ao;unfold UNK;omega,by simp,λp ay=>?_,λax=>?_,λj u ai=>?_⟩;·obtain⟨i,hi,rfl⟩:=N4.1 ay;exact(ab i (LU.1 hi)).1
 ·have:=(ab 0 ax).2;have:=ND W _ this;rwa [Ab.block_add]at this
 rw[LD]at ai;obtain⟨y,ad,rfl⟩:=Lx.1 ai;have aj:=(Lk.1 ad).1;rw[DB (by simpa using aj)]at ad;cases ad;exact(ab j (by simpa using aj)).2
def QKH {W:World}{v:Value}{ρ0:Ren}{H0:Qa}(ae:Sim Pg ρ0 H0 W)(ad:H0.Wf)(ac:Qiy H0)(h:Qwv W v):
  ∃ (l:List Int) (u:Value) (ρ:Ren) (H:Qa),QsU l∧Sim Pg ρ H W∧H.Wf∧Qiy H∧Ext H0 H∧V ρ u v∧Qwq H u l∧∃a cap,u=.slice a l.length cap∧l.length<=cap∧cap<UNK:=by
 rcases h with rfl | ⟨a,len,cap,l,rfl,ab,aa,rfl,ai,ak,aj⟩;·exact⟨[],.slice none 0 0,ρ0,H0,λp al=>by simp at al,ae,ad,ac,.refl _,.same _ rfl,⟨none,0,rfl,λh=>absurd h (NX 0)⟩,none,0,rfl,Lb _,by unfold UNK;omega⟩
 by_cases ah:0<l.length
 ·refine⟨l,.slice (some ⟨H0.y,0,none⟩) l.length cap,_,H0.push (.cells (l.map λb=>.int .u8 b) 5 true),ai,ae.addRo ac 5 (ak ah) (λj u ag=>?_),ad.push _,ac.push _ _,(Ext.refl H0).push _,V.sliceIn (Ww _ _ _) ab aa,⟨_,_,rfl,λ_=>?_⟩,_,_,rfl,ab,aa⟩;·rw[LD]at ag;obtain⟨y,am,rfl⟩:=Lx.1 ag;exact⟨_,aj j y am,.same _ rfl⟩
  refine⟨H0.y,0,_,5,true,rfl,by rw[Qc,Lc rfl],λi hi=>?_⟩;rw[LP,LD,La hi];simp[La hi]
 refine⟨l,.slice (some ⟨H0.y,0,none⟩) l.length cap,_,H0.up (H0.y+1),ai,ae.addDead ad a,ad.up (by omega),ac.up _,(Ext.refl H0).up (by omega),V.sliceIn (Ww _ _ _) ab aa,⟨_,_,rfl,λh=>absurd h ah⟩,_,_,rfl,ab,aa⟩
