/- Bytes that came in. -/
import Derived.Test.YtfofbicfabokbaaGreatDoorA0Args
import Derived.Test.YtfofbicfabokbaaGreatDoorLibT
set_option linter.unusedVariables false
set_option linter.unusedSimpArgs false
set_option maxRecDepth 100000
namespace Go.Proofs.YtfofbicfabokbaaGreatDoor.code
open Go.Ab Go.ChangeShapes Go.WideShapes Go.ChangeAt Go.RowKit
def QlC (W:World) (v:Value):Prop:=v=.slice none 0 0∨∃a len cap,∃l:List Int,v=.slice (some a) len cap∧len≤cap∧cap<UNK∧l.length=len∧YM l∧(0<len→a.block<W.heap.size)∧∀ (j:Nat) b,l[j]? = some b→W.cell? (a.add j)=some (.int .u8 b)
theorem QxL {H:Type} {enc:TypeId×Value→H} {W:World} {fuel tb te:Nat} {v:Value} {x:DataW H×List MemPlace} (hs:prog.underlying tb=some (.slice te)) (he:prog.underlying te=some (.int .u8)) (hc1:prog.cellsOf te=1)
  (h:DataW.trod enc prog W 0 (fun _=>true) true fuel tb v.cells.toList=some x) (hv:∃a len cap,v=.slice a len cap):QlC W v:=by
 obtain⟨a0,len0,cap0,rfl⟩:=hv
 rcases Deep.open_slice hs h with⟨hcs,_⟩ | ⟨a,len,cap,m,n,D,Pl,hcs,_,hlc,hcm,hm,_,hel⟩
 ·left
  simpa[Value.cells] using hcs
 ·right
  have hv:Value.slice a0 len0 cap0=.slice (some a) len cap:=by simpa[Value.cells] using hcs
  have hm:m=cap:=by simpa using hm
  have hex:∀i,i<len→∃z:Int,(0≤z∧z≤255)∧W.cell? (a.add i)=some (.int .u8 z):=fun i hi=>by
   obtain⟨cs',hc,ht⟩:=hel i (by omega)
   obtain⟨z,hz,_,hw⟩:=DataW.trod_int he ht
   rw[hc1,Nat.mul_one]at hc
   obtain⟨_,hg⟩:=Qqv hc
   have h0:=hg 0 (by decide)
   rw[Zk,Nat.add_zero]at h0
   have hb:=Qs4 hw
   refine⟨z,by omega,?_⟩
   rw[h0,hz]
   rfl
  obtain⟨f,hf⟩:=Deep.choose_lt hex
  refine⟨a,len,cap,(List.range len).map f,hv,hlc,by unfold maxLen at hcm;unfold UNK;omega,by simp,fun p hp=>?_,fun hlen=>?_,fun j u hj=>?_⟩
  ·obtain⟨i,hi,rfl⟩:=List.mem_map.1 hp
   exact(hf i (List.mem_range.1 hi)).1
  ·have:=(hf 0 hlen).2
   have:=World.block_lt_of_cell? W _ this
   rwa [Ab.block_add]at this
  ·rw[List.getElem?_map]at hj
   obtain⟨y,hy,rfl⟩:=Option.map_eq_some_iff.1 hj
   have hlt:=(List.getElem?_eq_some_iff.1 hy).1
   rw[List.getElem?_range (by simpa using hlt)]at hy
   cases hy
   exact(hf j (by simpa using hlt)).2
theorem Qs5 {W:World} {v:Value} {ρ0:Ren} {H0:Qa} (hs:Sim prog ρ0 H0 W) (hw:H0.Wf) (hro:QcH H0) (h:QlC W v):
  ∃ (l:List Int) (u:Value) (ρ:Ren) (H:Qa),YM l∧Sim prog ρ H W∧H.Wf∧QcH H∧Ext H0 H∧V ρ u v∧QiG H u l:=by
 rcases h with rfl | ⟨a,len,cap,l,rfl,hlc,hcu,rfl,hok,hlt,hc⟩
 ·exact⟨[],.slice none 0 0,ρ0,H0,fun p hp=>by simp at hp,hs,hw,hro,.refl _,.same _ rfl,none,0,rfl,fun h=>absurd h (Nat.lt_irrefl 0)⟩
 ·by_cases hl:0<l.length
  ·refine⟨l,.slice (some ⟨H0.next,0,none⟩) l.length cap,_,H0.push (.cells (l.map fun b=>.int .u8 b) 5 true),hok,hs.addRo hro 5 (hlt hl) (fun j u hj=>?_),hw.push _,hro.push _ _,(Ext.refl H0).push _,V.sliceIn (Wb _ _ _) hlc hcu,_,_,rfl,fun _=>?_⟩
   ·rw[List.getElem?_map]at hj
    obtain⟨y,hy,rfl⟩:=Option.map_eq_some_iff.1 hj
    exact⟨_,hc j y hy,.same _ rfl⟩
   ·refine⟨H0.next,0,_,5,true,rfl,by rw[Qa.get_push,if_pos rfl],fun i hi=>?_⟩
    rw[Nat.zero_add,List.getElem?_map,List.getElem?_eq_getElem hi]
    simp[List.getElem?_eq_getElem hi]
  ·refine⟨l,.slice (some ⟨H0.next,0,none⟩) l.length cap,_,H0.up (H0.next+1),hok,hs.addDead hw a,hw.up (by omega),hro.up _,(Ext.refl H0).up (by omega),V.sliceIn (Wb _ _ _) hlc hcu,_,_,rfl,fun h=>absurd h hl⟩
end Go.Proofs.YtfofbicfabokbaaGreatDoor.code
