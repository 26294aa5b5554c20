/- Which forms the layers tell. -/
import Derived.Test.YtmedjaegakinnaaGreatDoorLibX
import Derived.Test.YtmedjaegakinnaaGreatDoorLibA
import Derived.Test.YtmedjaegakinnaaGreatDoorLibN
import Derived.Test.YtmedjaegakinnaaGreatDoorAbD
import Derived.ProofKit
import Derived.OpenShut
import Derived.ChangeOld
import Derived.Deep.Slices
import Derived.Test.YtmedjaegakinnaaGreatDoorLibT
import Derived.Test.YtmedjaegakinnaaGreatDoorLibW
set_option linter.defProp false
set_option maxRecDepth 100000
set_option linter.unusedVariables false
set_option linter.unusedSimpArgs false
noncomputable section
namespace Go.Proofs.YtmedjaegakinnaaGreatDoor.code
open Go.Ab
def QqS:Qha (Qe6 tab.tabs) 96 QwD:=Zu tab.tabs_ok tab.tabs_low tab.all_sums3_0 (by kernel_rfl)
def QmZ:Qha (Qe6 tab.tabs) 97 QlP:=Zu tab.tabs_ok tab.tabs_low tab.all_sums4_0 (by kernel_rfl)
def Qor:Qha (Qe6 tab.tabs) 98 QqQ:=Zu tab.tabs_ok tab.tabs_low tab.all_sums5_0 (by kernel_rfl)
def Qos:Qha (Qe6 tab.tabs) 99 QqR:=Zu tab.tabs_ok tab.tabs_low tab.all_sums6_0 (by kernel_rfl)
def QqT:Qha (Qe6 tab.tabs) 100 QwE:=Zu tab.tabs_ok tab.tabs_low tab.all_sums7_0 (by kernel_rfl)
def QqU:Qha (Qe6 tab.tabs) 101 QwF:=Zu tab.tabs_ok tab.tabs_low tab.all_sums8_0 (by kernel_rfl)
def LL:FuncId->List Fm:=λf=>bif Nat.beq f 96 then QwD else bif Nat.beq f 97 then QlP else bif Nat.beq f 98 then QqQ else bif Nat.beq f 99 then QqR else bif Nat.beq f 100 then QwE else QwF
def QwT:∀x∈lis,Qha (Qe6 tab.tabs) x.2.2 (LL x.2.2):=by
 intro x hx;simp only[lis,LK,Ns,NN]at hx;rcases hx with rfl | rfl | rfl | rfl | rfl | rfl;·exact QqS
 ·exact QmZ
 ·exact Qor
 ·exact Qos
 ·exact QqT
 exact QqU
def ZS:List Fm:=QwD++(QlP++(QqQ++(QqR++(QwE++QwF))))
def QGX (p:Fm->Bool):Qga LL 1 322 p lis=ZS.filter p:=by
 have h:Qga LL 1 322 (λ_=>true) lis=ZS:=by
  have e:∀l:List Fm,l.filter (λ_=>true)=l:=λl=>by simp
  simp only[Qga,lis,Ba,DG,Na,e];rfl
 rw[QEh,h]
def QwU {L:List Fm}{a b op:Int}(h:(L.all λf=>decide (a<=f.op)&&decide (f.op<=b))=true)(aa:op<a∨op>b):L.filter (λf=>f.op==op)=[]:=by
 rw[List.filter_eq_nil_iff];intro f q;have:=Li.1 h f q;simp only[Lm,Lv]at this;simp only[L0];omega
def rng:(QwD.all λf=>decide (1<=f.op)&&decide (f.op<=16))=true∧(QlP.all λf=>decide (16<=f.op)&&decide (f.op<=47))=true∧(QqQ.all λf=>decide (48<=f.op)&&decide (f.op<=115))=true∧(QqR.all λf=>decide (116<=f.op)&&decide (f.op<=135))=true∧(QwE.all λf=>decide (136<=f.op)&&decide (f.op<=262))=true∧(QwF.all λf=>decide (263<=f.op)&&decide (f.op<=322))=true:=
 ⟨by kernel_rfl,by kernel_rfl,by kernel_rfl,by kernel_rfl,by kernel_rfl,by kernel_rfl⟩
def QJv (op:Int):Qga LL op op (λf=>f.op==op) lis=ZS.filter (λf=>f.op==op):=by
 have key:∀ (a b:Int) (L:List Fm),(L.all λf=>decide (a<=f.op)&&decide (f.op<=b))=true->(bif decide (op<a)||decide (op>b) then[] else L.filter λf=>f.op==op)=L.filter λf=>f.op==op:=λa b L h=>by
  cases q:decide (op<a)||decide (op>b) with
  | false=>rfl
  | true=>
   simp only[Nw,Lv]at q;rw[QwU h q];rfl
 obtain⟨r1,r2,r3,r4,aa,ab⟩:=rng;have e:Qga LL op op (λf=>f.op==op) lis=(bif decide (op<1)||decide (op>16) then[] else QwD.filter λf=>f.op==op)++((bif decide (op<16)||decide (op>47) then[] else QlP.filter λf=>f.op==op)++((bif decide (op<48)||decide (op>115) then[] else QqQ.filter λf=>f.op==op)++((bif decide (op<116)||decide (op>135) then[] else QqR.filter λf=>f.op==op)++((bif decide (op<136)||decide (op>262) then[] else QwE.filter λf=>f.op==op)++((bif decide (op<263)||decide (op>322) then[] else QwF.filter λf=>f.op==op)++[]))))):=rfl;rw[e,key _ _ _ r1,key _ _ _ r2,key _ _ _ r3,key _ _ _ r4,key _ _ _ aa,key _ _ _ ab,Na];simp only[ZS,Re]
def QnS:ZS.length=834:=by kernel_rfl
def Qz3:(Y7 Pg.globals.size tab.tabs).Wf:=λid q=>by
 cases ac:(Y7 Pg.globals.size tab.tabs).get id with
 | none=>rfl
 | some b=>
  obtain⟨t,aa,ab,_⟩:=Y1 ac;have:=tab.tabs_low t aa;have q:Pg.globals.size<=id:=q;subst ab;exact absurd this (by show ¬t.id<Pg.globals.size;omega)
def QJw:Qe6 tab.tabs (Y7 Pg.globals.size tab.tabs):=by unfold Qe6;kernel_rfl
def QJx (H:Qa)(q:Qe6 tab.tabs H):Qe Pg 32 [] H λu H'=>QdY H H' u ZS:=by
 have:=QuG QlO LL QwT H q;rwa [QGX,List.filter_eq_self.2 (λ_ _=>rfl)]at this
def QLk (op:Int)(H:Qa)(q:Qe6 tab.tabs H):Qe Pg 31 [.Z op] H λu H'=>QdY H H' u (ZS.filter λf=>f.op==op):=by
 have:=QyO QlO LL QwT op H q;rwa [QJv]at this
def QdY.short {H H':Qa}{u:Value}{p:Fm->Bool}{ys:List Lf}(h:ys.map (·.f)=ZS.filter p):ys.length<=834:=by
 have q:=congrArg List.length h;have aa:=R7 p ZS;rw[QnS]at aa;simp only[Nn]at q;omega
def QEi:(ZS.all λf=>decide (0<=f.code)&&decide (f.code<=255))=true:=by kernel_rfl
def bk (f:Fm):Nat:=((((bif f.vex then 1 else 0) * 8+f.pre.toNat) * 4+f.map.toNat) * 2+f.l.toNat) * 32+(f.code / 8).toNat
def QEj {a b:Fm}(am:0<=a.code∧a.code<=255)(an:0<=b.code∧b.code<=255)(h:Qlx a b=true):bk a=bk b:=by
 simp only[Qlx,Lm,L0]at h;obtain⟨⟨⟨⟨⟨ad,ae⟩,ag⟩,ah⟩,q⟩,_⟩:=h;have aa:Qx8 a b=true:=by
  cases ai:Qx8 a b with
  | true=>rfl
  | false=>rw[ai]at q;simp at q
 have ak:=Qlw a.code (by unfold I64;omega);have hB:=Qlw b.code (by unfold I64;omega);have aj:a.code / 8=b.code / 8:=by
  simp only[Qx8,QoI,Lm,L0]at aa;obtain⟨o1,o2⟩:=aa;cases ab:decide (0<=Qh a.slots 4)<;>cases ac:decide (0<=Qh b.slots 4)<;>simp only[ab,ac,Lq,Ls]at o1 o2<;>omega
 simp only[bk,ad,ae,ag,ah,aj]
def QGY:Nat->List Fm->List (Nat×Fm)
 | _,[]=>[]
 | i,f::l=>(i,f)::QGY (i+1) l
def QqW:∀ (l:List Fm) (i k:Nat) (f:Fm),l[k]? = some f->(i+k,f)∈QGY i l
 | [],i,k,f,h=>by simp at h
 | g::l,i,0,f,h=>by simp at h;subst h;exact Ny ..
 | g::l,i,k+1,f,h=>by
  have:=QqW l (i+1) k f (by simpa using h);rw[show i+1+k=i+(k+1) by omega]at this;exact NA _ this
def QJy (x:Nat×Fm)(t:Tr (List (Nat×Fm))):Tr (List (Nat×Fm)):=t.set (bk x.2) (some (x::match t.get (bk x.2) with | some l=>l | none=>[]))
def QJz (l:List (Nat×Fm)):Tr (List (Nat×Fm)):=l.foldr QJy .nil
def QqX:∀ (l:List (Nat×Fm)) (x:Nat×Fm),x∈l->∃L,(QJz l).get (bk x.2)=some L∧x∈L
 | [],x,h=>by cases h
 | y::l,x,h=>by
  show ∃L,(QJy y (QJz l)).get (bk x.2)=some L∧x∈L;unfold QJy;rw[Tr.get_set]
  by_cases e:bk x.2=bk y.2
  ·rw[Lc e];refine⟨_,rfl,?_⟩;rcases LK.1 h with rfl | h;·exact Ny ..
   obtain⟨L,q,aa⟩:=QqX l x h;rw[<- e,q];exact NA _ aa
  rw[Le e];rcases LK.1 h with rfl | h;·exact absurd rfl e
  exact QqX l x h
def TB:Tr (List (Nat×Fm)):=QJz (QGY 0 ZS)
def QHl (x:Nat×Fm):Bool:=match TB.get (bk x.2) with
 | some L=>L.all λy=>Qlx x.2 y.2==Nat.beq x.1 y.1
 | none=>false
def QKC:((QGY 0 ZS).all QHl)=true:=by kernel_rfl
def Gd {i k:Nat}{a b:Fm}(ab:ZS[i]? = some a)(q:ZS[k]? = some b):Qlx a b=decide (i=k):=by
 have h:=Li.1 QKC _ (QqW ZS 0 i a ab);obtain⟨L,aa,ac⟩:=QqX _ _ (QqW ZS 0 k b q);have ad:=Li.1 QEi _ (Ln ab);have ae:=Li.1 QEi _ (Ln q);simp only[Lm,Lv]at ad ae;rw[LP]at h ac
 by_cases e:bk a=bk b;·simp only[QHl,e]at h;have aa:TB.get (bk b)=some L:=aa;rw[aa]at h;have:=Li.1 h _ ac;simp only[L0]at this;rw[this,Zw]
 have ah:¬Qlx a b=true:=λh=>e (QEj ad ae h);have ag:¬i=k:=by
  rintro rfl;rw[ab]at q;cases q;exact e rfl
 rw[Lj ag];simpa using ah
end Go.Proofs.YtmedjaegakinnaaGreatDoor.code
namespace Go.Proofs.YtmedjaegakinnaaGreatDoor.code
open Go.Ab Go.ChangeShapes Go.WideShapes Go.ChangeAt Go.RowKit
def QEm {z:Int}(h:(Lit.int .u8 z).wf=true):0<=z∧z<256:=by
 have:=bounds_u8 h;omega
def QGZ:Qg1 (Y7 Pg.globals.size tab.tabs):=λid b h=>by
 obtain⟨t,_,_,rfl⟩:=Y1 h;rfl
def QoT (W:World)(v:Value):Prop:=v=.slice none 0 0∨∃a len cap,∃l:List Int,v=.slice (some a) len cap∧len<=cap∧cap<UNK∧l.length=len∧WO l∧(0<len->a.block<W.heap.size)∧∀ (j:Nat) b,l[j]? = some b->W.cell? (a.add j)=some (.int .u8 b)
def Qz4 {H:Type}{enc:TypeId×Value->H}{W:World}{am tb ad:Nat}{v:Value}{x:DataW H×List MemPlace}(ay:Pg.underlying tb=some (.slice ad))(ap:Pg.underlying ad=some (.int .u8))(an:Pg.cellsOf ad=1)
  (h:DataW.trod enc Pg W 0 (λ_=>true) true am tb v.cells.toList=some x) (ab:∃a len cap,v=.slice a len cap):QoT W v:=by
 obtain⟨a0,aC,ak,rfl⟩:=ab;rcases Deep.open_slice ay h with⟨q,_⟩ | ⟨a,len,cap,m,n,D,Pl,q,_,av,ao,aj,_,aq⟩;·left;simpa[Value.cells] using q
 right;have ab:Value.slice a0 aC ak=.slice (some a) len cap:=by simpa[Value.cells] using q
 have aj:m=cap:=by simpa using aj
 have ar:∀i,i<len->∃z:Int,(0<=z∧z<=255)∧W.cell? (a.add i)=some (.int .u8 z):=λi hi=>by
  obtain⟨aD,ag,az⟩:=aq i (by omega);obtain⟨z,aB,_,aA⟩:=BT ap az;rw[an,NH]at ag;obtain⟨_,au⟩:=QAO ag;have ae:=au 0 (by decide);rw[ZG,N9]at ae;have aE:=QEm aA;refine⟨z,by omega,?_⟩;rw[ae,aB];rfl
 obtain⟨f,aa⟩:=Deep.choose_lt ar;refine⟨a,len,cap,(List.range len).map f,ab,av,by unfold maxLen at ao;unfold UNK;omega,by simp,λp ax=>?_,λaw=>?_,λj u ah=>?_⟩;·obtain⟨i,hi,rfl⟩:=N4.1 ax;exact(aa i (LU.1 hi)).1
 ·have:=(aa 0 aw).2;have:=ND W _ this;rwa [Ab.block_add]at this
 rw[LD]at ah;obtain⟨y,ac,rfl⟩:=Lx.1 ah;have ai:=(Lk.1 ac).1;rw[DB (by simpa using ai)]at ac;cases ac;exact(aa j (by simpa using ai)).2
def QJA:QiN 81:=QEl (by kernel_rfl)
def Qz5:(ZS.all QrH)=true:=by kernel_rfl
def QG0:(ZS.all λf=>Qhw f==0)=true:=by kernel_rfl
def QJB:(ZS.all fmI)=true:=by kernel_rfl
def QHm:(ZS.all λf=>decide (QFT f<=15)&&decide (fmN f<=15))=true:=by kernel_rfl
def lOk:LOk ZS where
 fit:=λf q=>Li.1 Qz5 f q
 one:=λf q g ab h=>by
  obtain⟨i,hi⟩:=Bx.1 q;obtain⟨k,aa⟩:=Bx.1 ab;rw[Gd hi aa]at h;have e:=Lg h;subst e;rw[hi]at aa;exact Ly aa
 shp:=λf q=>eq_of_beq (Li.1 QG0 f q)
 im:=λf q=>Li.1 QJB f q
 k15:=λf q=>by have:=Li.1 QHm f q;rw[Lm]at this;exact Lg this.1
 n15:=λf q=>by have:=Li.1 QHm f q;rw[Lm]at this;exact Lg this.2
def ka1:isF (dcd ZS [131,192,5,9]) 1 3 [rg 4 0,nA 3 5]=true:=by kernel_rfl
def ka2:isF (dcd ZS [64,144]) 50 2 []=true:=by kernel_rfl
def ka3:GO (dcd ZS [131,192]) 9=true:=by kernel_rfl
def ka4:GO (dcd ZS [6]) 4=true:=by kernel_rfl
def kb1:isF (dcd ZS [144]) 50 1 []=true:=by kernel_rfl
def kb2:GO (dcd ZS [15]) 9=true:=by kernel_rfl
def kb3:GO (dcd ZS [102,242,72]) 4=true:=by kernel_rfl
def kb4:GO (dcd ZS []) 9=true:=by kernel_rfl
def kb5:isF (dcd ZS [74,139,68,203,16]) 9 5 [rg 5 0,exP]=true:=by kernel_rfl
def kb6:isF (dcd ZS [72,135,200]) 11 3 [rg 5 0,rg 5 1]=true:=by kernel_rfl
def kc:(match ZS[0]? with | some f=>isF (QD [4,255] f) 1 2 [rg 1 0,nA 3 (-1)]&&((QD [5] f).e==4)&&((QD [4] f).e==9) | none=>false)=true:=by kernel_rfl
def QLl:QDp ZS:=⟨ka1,ka2,ka3,ka4,kb1,kb2,kb3,kb4,kb5,kb6,by
 have h:=kc;split at h;·rename_i f q;simp only[Lm,L0]at h;exact⟨f,q,h.1.1,h.1.2,h.2⟩
 cases h⟩
def QKD:ZS.length<=6000:=by rw[QnS];decide
def ByC (H:Qa)(v:Value)(bs:List Int):Prop:=Qf4 H v bs∧∃a cap,v=.slice a bs.length cap∧bs.length<=cap∧cap<UNK
def ByC.c {H:Qa}{v:Value}{bs:List Int}(h:ByC H v bs):QeL H v bs:=by
 obtain⟨q,a,cap,e,aa,ab⟩:=h;exact⟨a,cap,e,aa,ab,q⟩
def lOf (op:Int)(H:Qa)(h:Qe6 tab.tabs H):Qe Pg 31 [.Z op] H λu H'=>QdY H H' u (ZS.filter λf=>f.op==op):=QLk op H h
def QKE:∀f∈ZS,f.shapes.length=f.slots.length:=λf q=>(Qd8 (Li.1 Qz5 f q)).2
def QyP (u v:Value)(b R:List Int)(ad:WO b)(ab:WO R)(H:Qa)(ac:Qe6 tab.tabs H)(q:ByC H u b)(aa:ByC H v R):Qe Pg 3 [u,v] H λu H'=>u=.bool true∧True:=
 (QrU (T:=Qe6 tab.tabs) QlO QJx QJA QKE lOf QLl lOk QKD H ac q.c ad aa.c ab).mono λv H' h=>⟨h.1,trivial⟩
