/- No two forms of the table meet. -/
import Derived.Test.YtfofbicfabokbaaGreatDoorL9Tab
import Derived.Test.YtfofbicfabokbaaGreatDoorLibA
set_option linter.unusedVariables false
set_option maxRecDepth 100000
noncomputable section
namespace Go.Proofs.YtfofbicfabokbaaGreatDoor.code
open Go.Ab
theorem QCr:(Qib.all λf=>decide (0<=f.code)&&decide (f.code<=255))=true:=by kernel_rfl
def bk (f:Fm):Nat:=((((bif f.vex then 1 else 0) * 8+f.pre.toNat) * 4+f.map.toNat) * 2+f.l.toNat) * 32+(f.code / 8).toNat
theorem QCs {a b:Fm} (ha:0<=a.code∧a.code<=255) (hb:0<=b.code∧b.code<=255) (h:QsI a b=true):bk a=bk b:=by
 simp only[QsI,Lm,L0]at h;obtain⟨⟨⟨⟨⟨h1,h2⟩,h3⟩,h4⟩,h5⟩,_⟩:=h;have ho:QDP a b=true:=by
  cases hc:QDP a b with
  | true=>rfl
  | false=>rw[hc]at h5;simp at h5
 have hA:=Qyd a.code (by unfold I64;omega);have hB:=Qyd b.code (by unfold I64;omega);have hcode:a.code / 8=b.code / 8:=by
  simp only[QDP,QtH,Lm,L0]at ho;obtain⟨o1,o2⟩:=ho;cases c1:decide (0<=QC a.slots 4)<;>cases c2:decide (0<=QC b.slots 4)<;>simp only[c1,c2,Lq,Ls]at o1 o2<;>omega
 simp only[bk,h1,h2,h3,h4,hcode]
def QEB:Nat->List Fm->List (Nat×Fm)
 | _,[]=>[]
 | i,f::l=>(i,f)::QEB (i+1) l
theorem Qrs:∀ (l:List Fm) (i k:Nat) (f:Fm),l[k]? = some f->(i+k,f)∈QEB i l
 | [],i,k,f,h=>by simp at h
 | g::l,i,0,f,h=>by simp at h;subst h;exact Ny ..
 | g::l,i,k+1,f,h=>by
  have:=Qrs l (i+1) k f (by simpa using h);rw[show i+1+k=i+(k+1) by omega]at this;exact NA _ this
def QGJ (x:Nat×Fm) (t:Tr (List (Nat×Fm))):Tr (List (Nat×Fm)):=t.set (bk x.2) (some (x::match t.get (bk x.2) with | some l=>l | none=>[]))
def QGK (l:List (Nat×Fm)):Tr (List (Nat×Fm)):=l.foldr QGJ .nil
theorem Qrt:∀ (l:List (Nat×Fm)) (x:Nat×Fm),x∈l->∃L,(QGK l).get (bk x.2)=some L∧x∈L
 | [],x,h=>by cases h
 | y::l,x,h=>by
  show ∃L,(QGJ y (QGK l)).get (bk x.2)=some L∧x∈L;unfold QGJ;rw[Tr.get_set]
  by_cases e:bk x.2=bk y.2
  ·rw[Lc e];refine⟨_,rfl,?_⟩;rcases LK.1 h with rfl | h
   ·exact Ny ..
   ·obtain⟨L,h1,h2⟩:=Qrt l x h;rw[<- e,h1];exact NA _ h2
  ·rw[Le e];rcases LK.1 h with rfl | h
   ·exact absurd rfl e
   ·exact Qrt l x h
def TB:Tr (List (Nat×Fm)):=QGK (QEB 0 Qib)
def QEV (x:Nat×Fm):Bool:=match TB.get (bk x.2) with
 | some L=>L.all λy=>QsI x.2 y.2==Nat.beq x.1 y.1
 | none=>false
theorem QHF:((QEB 0 Qib).all QEV)=true:=by kernel_rfl
theorem Qc5 {i k:Nat} {a b:Fm} (ha:Qib[i]? = some a) (hb:Qib[k]? = some b):QsI a b=decide (i=k):=by
 have h:=Li.1 QHF _ (Qrs Qib 0 i a ha);obtain⟨L,h1,h2⟩:=Qrt _ _ (Qrs Qib 0 k b hb);have hca:=Li.1 QCr _ (Ln ha);have hcb:=Li.1 QCr _ (Ln hb);simp only[Lm,Lv]at hca hcb;rw[LP]at h h2
 by_cases e:bk a=bk b
 ·simp only[QEV,e]at h;have h1:TB.get (bk b)=some L:=h1;rw[h1]at h;have:=Li.1 h _ h2;simp only[L0]at this;rw[this,JR]
 ·have hn:¬QsI a b=true:=λh=>e (QCs hca hcb h);have hik:¬i=k:=by
   rintro rfl;rw[ha]at hb;cases hb;exact e rfl
  rw[Lj hik];simpa using hn
end Go.Proofs.YtfofbicfabokbaaGreatDoor.code
