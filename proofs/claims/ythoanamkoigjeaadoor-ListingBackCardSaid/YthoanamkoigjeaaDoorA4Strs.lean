/- Texts that came in. -/
import Derived.Test.YthoanamkoigjeaaDoorX3Tab
import Derived.Test.YthoanamkoigjeaaDoorAbD
import Derived.ProofKit
import Derived.OpenShut
import Derived.ChangeOld
import Derived.Deep.Slices
set_option linter.unusedVariables false
set_option linter.unusedSimpArgs false
set_option maxRecDepth 100000
namespace Go.Proofs.YthoanamkoigjeaaDoor.code
open Go.Ab Go.ChangeShapes Go.WideShapes Go.ChangeAt Go.RowKit
def Qpz (W:World) (v:Value):Prop:=v=.slice none 0 0∨∃a len cap,∃l:List (List UInt8),v=.slice (some a) len cap∧len≤cap∧cap<UNK∧l.length=len∧(0<len→a.block<W.heap.size)∧∀ (j:Nat) b,l[j]? = some b→W.cell? (a.add j)=some (.string (mkS b))
theorem QpO {H:Type} {enc:TypeId×Value→H} {W:World} {fuel tb te:Nat} {v:Value} {x:DataW H×List MemPlace} (hs:prog.underlying tb=some (.slice te)) (he:prog.underlying te=some .string) (hc1:prog.cellsOf te=1)
  (h:DataW.trod enc prog W 0 (fun _=>true) true fuel tb v.cells.toList=some x) (hv:∃a len cap,v=.slice a len cap):Qpz W v:=by
 obtain⟨a0,len0,cap0,rfl⟩:=hv
 rcases Deep.open_slice hs h with⟨hcs,_⟩ | ⟨a,len,cap,m,n,D,Pl,hcs,_,hlc,hcm,hm,_,hel⟩
 ·left
  simpa[Value.cells] using hcs
 ·right
  have hv:Value.slice a0 len0 cap0=.slice (some a) len cap:=by simpa[Value.cells] using hcs
  have hm:m=cap:=by simpa using hm
  have hex:∀i,i<len→∃z:List UInt8,True∧W.cell? (a.add i)=some (.string (mkS z)):=fun i hi=>by
   obtain⟨cs',hc,ht⟩:=hel i (by omega)
   obtain⟨z,hz,_,hw⟩:=DataW.trod_string he ht
   rw[hc1,Nat.mul_one]at hc
   obtain⟨_,hg⟩:=Qpr hc
   have h0:=hg 0 (by decide)
   rw[YG,Nat.add_zero]at h0
   refine⟨bl z,trivial,?_⟩
   rw[h0,hz,QdS]
   rfl
  obtain⟨f,hf⟩:=Deep.choose_lt hex
  refine⟨a,len,cap,(List.range len).map f,hv,hlc,by unfold maxLen at hcm;unfold UNK;omega,by simp,fun hlen=>?_,fun j u hj=>?_⟩
  ·have:=(hf 0 hlen).2
   have:=World.block_lt_of_cell? W _ this
   rwa [Ab.block_add]at this
  ·rw[List.getElem?_map]at hj
   obtain⟨y,hy,rfl⟩:=Option.map_eq_some_iff.1 hj
   have hlt:=(List.getElem?_eq_some_iff.1 hy).1
   rw[List.getElem?_range (by simpa using hlt)]at hy
   cases hy
   exact(hf j (by simpa using hlt)).2
end Go.Proofs.YthoanamkoigjeaaDoor.code
