/- Which forms the layers tell. -/
import Derived.Test.YtfofbicfabokbaaGreatDoorLibW
import Derived.Test.YtfofbicfabokbaaGreatDoorLibA
set_option maxRecDepth 100000
set_option linter.unusedVariables false
noncomputable section
namespace Go.Proofs.YtfofbicfabokbaaGreatDoor.code
open Go.Ab
theorem Qrl:KJ (V0 tab.tabs) Qiv L_alu:=W2 tab.tabs_ok tab.tabs_low tab.all_sums3_0 (by kernel_rfl)
theorem Qhe:KJ (V0 tab.tabs) G6 L_alu:=W2 tab.tabs_ok tab.tabs_low tab.all_sums9_0 (by kernel_rfl)
theorem Qon:KJ (V0 tab.tabs) Qfb L_unary:=W2 tab.tabs_ok tab.tabs_low tab.all_sums4_0 (by kernel_rfl)
theorem Qhf:KJ (V0 tab.tabs) G7 L_unary:=W2 tab.tabs_ok tab.tabs_low tab.all_sums10_0 (by kernel_rfl)
theorem QpF:KJ (V0 tab.tabs) QgA L_flow:=W2 tab.tabs_ok tab.tabs_low tab.all_sums5_0 (by kernel_rfl)
theorem Qhg:KJ (V0 tab.tabs) G8 L_flow:=W2 tab.tabs_ok tab.tabs_low tab.all_sums11_0 (by kernel_rfl)
theorem QpG:KJ (V0 tab.tabs) QgB L_bits:=W2 tab.tabs_ok tab.tabs_low tab.all_sums6_0 (by kernel_rfl)
theorem Qhh:KJ (V0 tab.tabs) G9 L_bits:=W2 tab.tabs_ok tab.tabs_low tab.all_sums12_0 (by kernel_rfl)
theorem Qrm:KJ (V0 tab.tabs) Qiw L_sse:=W2 tab.tabs_ok tab.tabs_low tab.all_sums7_0 (by kernel_rfl)
theorem Qhi:KJ (V0 tab.tabs) Va L_sse:=W2 tab.tabs_ok tab.tabs_low tab.all_sums13_0 (by kernel_rfl)
theorem Qrn:KJ (V0 tab.tabs) Qmq L_avx:=W2 tab.tabs_ok tab.tabs_low tab.all_sums8_0 (by kernel_rfl)
theorem Qhj:KJ (V0 tab.tabs) Vb L_avx:=W2 tab.tabs_ok tab.tabs_low tab.all_sums14_0 (by kernel_rfl)
def LL:FuncId->List Fm:=λf=>bif Nat.beq f Qiv then L_alu else bif Nat.beq f Qfb then L_unary else bif Nat.beq f QgA then L_flow else bif Nat.beq f QgB then L_bits else bif Nat.beq f Qiw then L_sse else L_avx
theorem Qrr:∀x∈lis,KJ (V0 tab.tabs) x.2.2 (LL x.2.2):=by
 intro x hx;simp only[lis,LK,Ns,NN]at hx;rcases hx with rfl | rfl | rfl | rfl | rfl | rfl
 ·exact Qrl
 ·exact Qon
 ·exact QpF
 ·exact QpG
 ·exact Qrm
 ·exact Qrn
def Qib:List Fm:=L_alu++(L_unary++(L_flow++(L_bits++(L_sse++L_avx))))
theorem QEA (p:Fm->Bool):Qia LL 1 322 p lis=Qib.filter p:=by
 have h:Qia LL 1 322 (λ_=>true) lis=Qib:=by
  have e:∀l:List Fm,l.filter (λ_=>true)=l:=λl=>by simp
  simp only[Qia,lis,Ba,DG,Na,e];rfl
 rw[QCp,h]
theorem QvZ:Qib.length=834:=by kernel_rfl
theorem QpW:(Wv prog.globals.size tab.tabs).Wf:=λid hid=>by
 cases hg:(Wv prog.globals.size tab.tabs).get id with
 | none=>rfl
 | some b=>
  obtain⟨t,h1,h2,_⟩:=Y8 hg;have:=tab.tabs_low t h1;have hid:prog.globals.size<=id:=hid;subst h2;exact absurd this (by show ¬t.id<prog.globals.size;omega)
theorem QxJ:V0 tab.tabs (Wv prog.globals.size tab.tabs):=by unfold V0;kernel_rfl
def tkn:CallF:=QxI tab.tabs LL
theorem QGG:CallOk prog tkn:=Qz7 tab.tabs_ok tab.tabs_low QpW QxJ LL Qrr (by kernel_rfl) (by kernel_rfl)
def knT:CallF:=Zq (xknown tab.xt) tkn
theorem QGH:CallOk prog knT:=orKnown_ok tab.xt_ok QGG
theorem QGI (H:Qa) (hT:V0 tab.tabs H):Qh prog XL [] H λu H'=>QiS H H' u Qib:=by
 have:=QnB Qeg LL Qrr H hT;rwa [QEA,List.filter_eq_self.2 (λ_ _=>rfl)]at this
theorem QiS.short {H H':Qa} {u:Value} {p:Fm->Bool} {ys:List Lf} (h:ys.map (·.f)=Qib.filter p):ys.length<=834:=by
 have h1:=congrArg List.length h;have h2:=R7 p Qib;rw[QvZ]at h2;simp only[Nn]at h1;omega
theorem QCr:(Qib.all λf=>decide (0<=f.code)&&decide (f.code<=255))=true:=by kernel_rfl
def bk (f:Fm):Nat:=((((bif f.vex then 1 else 0) * 8+f.pre.toNat) * 4+f.map.toNat) * 2+f.l.toNat) * 32+(f.code / 8).toNat
theorem QCs {a b:Fm} (ha:0<=a.code∧a.code<=255) (hb:0<=b.code∧b.code<=255) (h:QsI a b=true):bk a=bk b:=by
 simp only[QsI,Lm,L0]at h;obtain⟨⟨⟨⟨⟨h1,h2⟩,h3⟩,h4⟩,h5⟩,_⟩:=h;have ho:QDP a b=true:=by
  cases hc:QDP a b with
  | true=>rfl
  | false=>rw[hc]at h5;simp at h5
 have hA:=Qyd a.code (by unfold I64;omega);have hB:=Qyd b.code (by unfold I64;omega);have hcode:a.code / 8=b.code / 8:=by
  simp only[QDP,QtH,Lm,L0]at ho;obtain⟨o1,o2⟩:=ho;cases c1:decide (0<=QC a.slots 4)<;>cases c2:decide (0<=QC b.slots 4)<;>simp only[c1,c2,Lq,Ls]at o1 o2<;>omega
 simp only[bk,h1,h2,h3,h4,hcode]
def QEB:Nat->List Fm->List (Nat×Fm)
 | _,[]=>[]
 | i,f::l=>(i,f)::QEB (i+1) l
theorem Qrs:∀ (l:List Fm) (i k:Nat) (f:Fm),l[k]? = some f->(i+k,f)∈QEB i l
 | [],i,k,f,h=>by simp at h
 | g::l,i,0,f,h=>by simp at h;subst h;exact Ny ..
 | g::l,i,k+1,f,h=>by
  have:=Qrs l (i+1) k f (by simpa using h);rw[show i+1+k=i+(k+1) by omega]at this;exact NA _ this
def QGJ (x:Nat×Fm) (t:Tr (List (Nat×Fm))):Tr (List (Nat×Fm)):=t.set (bk x.2) (some (x::match t.get (bk x.2) with | some l=>l | none=>[]))
def QGK (l:List (Nat×Fm)):Tr (List (Nat×Fm)):=l.foldr QGJ .nil
theorem Qrt:∀ (l:List (Nat×Fm)) (x:Nat×Fm),x∈l->∃L,(QGK l).get (bk x.2)=some L∧x∈L
 | [],x,h=>by cases h
 | y::l,x,h=>by
  show ∃L,(QGJ y (QGK l)).get (bk x.2)=some L∧x∈L;unfold QGJ;rw[Tr.get_set]
  by_cases e:bk x.2=bk y.2
  ·rw[Lc e];refine⟨_,rfl,?_⟩;rcases LK.1 h with rfl | h
   ·exact Ny ..
   ·obtain⟨L,h1,h2⟩:=Qrt l x h;rw[<- e,h1];exact NA _ h2
  ·rw[Le e];rcases LK.1 h with rfl | h
   ·exact absurd rfl e
   ·exact Qrt l x h
def TB:Tr (List (Nat×Fm)):=QGK (QEB 0 Qib)
def QEV (x:Nat×Fm):Bool:=match TB.get (bk x.2) with
 | some L=>L.all λy=>QsI x.2 y.2==Nat.beq x.1 y.1
 | none=>false
theorem QHF:((QEB 0 Qib).all QEV)=true:=by kernel_rfl
theorem Qc5 {i k:Nat} {a b:Fm} (ha:Qib[i]? = some a) (hb:Qib[k]? = some b):QsI a b=decide (i=k):=by
 have h:=Li.1 QHF _ (Qrs Qib 0 i a ha);obtain⟨L,h1,h2⟩:=Qrt _ _ (Qrs Qib 0 k b hb);have hca:=Li.1 QCr _ (Ln ha);have hcb:=Li.1 QCr _ (Ln hb);simp only[Lm,Lv]at hca hcb;rw[LP]at h h2
 by_cases e:bk a=bk b
 ·simp only[QEV,e]at h;have h1:TB.get (bk b)=some L:=h1;rw[h1]at h;have:=Li.1 h _ h2;simp only[L0]at this;rw[this,JR]
 ·have hn:¬QsI a b=true:=λh=>e (QCs hca hcb h);have hik:¬i=k:=by
   rintro rfl;rw[ha]at hb;cases hb;exact e rfl
  rw[Lj hik];simpa using hn
end Go.Proofs.YtfofbicfabokbaaGreatDoor.code
