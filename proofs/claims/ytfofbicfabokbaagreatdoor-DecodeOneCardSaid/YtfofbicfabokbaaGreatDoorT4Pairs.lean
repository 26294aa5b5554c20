/- No two forms of the table meet. -/
import Derived.Test.YtfofbicfabokbaaGreatDoorL9Tab
import Derived.Test.YtfofbicfabokbaaGreatDoorLibA
set_option linter.unusedVariables false
set_option maxRecDepth 100000
noncomputable section
namespace Go.Proofs.YtfofbicfabokbaaGreatDoor.code
open Go.Ab
theorem Qvc:(Qb3.all fun f=>decide (0≤f.code)&&decide (f.code≤255))=true:=by kernel_rfl
def bk (f:Fm):Nat:=((((bif f.vex then 1 else 0) * 8+f.pre.toNat) * 4+f.map.toNat) * 2+f.l.toNat) * 32+(f.code / 8).toNat
theorem Qs0 {a b:Fm} (ha:0≤a.code∧a.code≤255) (hb:0≤b.code∧b.code≤255) (h:Qfp a b=true):bk a=bk b:=by
 simp only[Qfp,Bool.and_eq_true,beq_iff_eq]at h
 obtain⟨⟨⟨⟨⟨h1,h2⟩,h3⟩,h4⟩,h5⟩,_⟩:=h
 have ho:QoF a b=true:=by
  cases hc:QoF a b with
  | true=>rfl
  | false=>rw[hc]at h5;simp at h5
 have hA:=Qfo a.code (by unfold I64;omega)
 have hB:=Qfo b.code (by unfold I64;omega)
 have hcode:a.code / 8=b.code / 8:=by
  simp only[QoF,Qhr,Bool.and_eq_true,beq_iff_eq]at ho
  obtain⟨o1,o2⟩:=ho
  cases c1:decide (0≤QZ a.slots 4)<;>cases c2:decide (0≤QZ b.slots 4)<;>simp only[c1,c2,cond_true,cond_false]at o1 o2<;>omega
 simp only[bk,h1,h2,h3,h4,hcode]
def QuV:Nat→List Fm→List (Nat×Fm)
 | _,[]=>[]
 | i,f::l=>(i,f)::QuV (i+1) l
theorem Qi1:∀ (l:List Fm) (i k:Nat) (f:Fm),l[k]? = some f→(i+k,f)∈QuV i l
 | [],i,k,f,h=>by simp at h
 | g::l,i,0,f,h=>by simp at h;subst h;exact List.mem_cons_self ..
 | g::l,i,k+1,f,h=>by
  have:=Qi1 l (i+1) k f (by simpa using h)
  rw[show i+1+k=i+(k+1) by omega]at this
  exact List.mem_cons_of_mem _ this
def QwJ (x:Nat×Fm) (t:Tr (List (Nat×Fm))):Tr (List (Nat×Fm)):=t.set (bk x.2) (some (x::match t.get (bk x.2) with | some l=>l | none=>[]))
def QwK (l:List (Nat×Fm)):Tr (List (Nat×Fm)):=l.foldr QwJ .nil
theorem Qi2:∀ (l:List (Nat×Fm)) (x:Nat×Fm),x∈l→∃L,(QwK l).get (bk x.2)=some L∧x∈L
 | [],x,h=>by cases h
 | y::l,x,h=>by
  show ∃L,(QwJ y (QwK l)).get (bk x.2)=some L∧x∈L
  unfold QwJ
  rw[Tr.get_set]
  by_cases e:bk x.2=bk y.2
  ·rw[if_pos e]
   refine⟨_,rfl,?_⟩
   rcases List.mem_cons.1 h with rfl | h
   ·exact List.mem_cons_self ..
   ·obtain⟨L,h1,h2⟩:=Qi2 l x h
    rw[← e,h1]
    exact List.mem_cons_of_mem _ h2
  ·rw[if_neg e]
   rcases List.mem_cons.1 h with rfl | h
   ·exact absurd rfl e
   ·exact Qi2 l x h
def TB:Tr (List (Nat×Fm)):=QwK (QuV 0 Qb3)
def Qvd (x:Nat×Fm):Bool:=match TB.get (bk x.2) with
 | some L=>L.all fun y=>Qfp x.2 y.2==Nat.beq x.1 y.1
 | none=>false
theorem Qxn:((QuV 0 Qb3).all Qvd)=true:=by kernel_rfl
theorem JJ {i k:Nat} {a b:Fm} (ha:Qb3[i]? = some a) (hb:Qb3[k]? = some b):Qfp a b=decide (i=k):=by
 have h:=List.all_eq_true.1 Qxn _ (Qi1 Qb3 0 i a ha)
 obtain⟨L,h1,h2⟩:=Qi2 _ _ (Qi1 Qb3 0 k b hb)
 have hca:=List.all_eq_true.1 Qvc _ (List.mem_of_getElem? ha)
 have hcb:=List.all_eq_true.1 Qvc _ (List.mem_of_getElem? hb)
 simp only[Bool.and_eq_true,decide_eq_true_eq]at hca hcb
 rw[Nat.zero_add]at h h2
 by_cases e:bk a=bk b
 ·simp only[Qvd,e]at h
  have h1:TB.get (bk b)=some L:=h1
  rw[h1]at h
  have:=List.all_eq_true.1 h _ h2
  simp only[beq_iff_eq]at this
  rw[this,XG]
 ·have hn:¬Qfp a b=true:=fun h=>e (Qs0 hca hcb h)
  have hik:¬i=k:=by
   rintro rfl
   rw[ha]at hb
   cases hb
   exact e rfl
  rw[decide_eq_false hik]
  simpa using hn
end Go.Proofs.YtfofbicfabokbaaGreatDoor.code
