/- What the rows' lists give: the cells of the tables that are read; a world that holds all listed variables. -/
import Derived.Test.YthoanamkoigjeaaDoorCards
import Derived.Test.YthoanamkoigjeaaDoorTie
import Derived.Test.YthoanamkoigjeaaDoorS0Sums
import Derived.WalkKit
import Derived.ProofKit
import Derived.OpenShut
import Derived.Deep.DeepHandedRow
import Derived.Deep.DeepLaidRun
import Derived.Lib.LaidTab
import Derived.Lib.Space
import Derived.Lib.SpaceR
set_option linter.unusedVariables false
set_option maxRecDepth 100000
noncomputable section
namespace Go.Proofs.YthoanamkoigjeaaDoor.tab
open Go.ChangeShapes Go.WideShapes Go.ChangeAt Go.RowKit
theorem own:ownKnob Tryd.prog.godebug=none:=by kernel_rfl
theorem tail {P:Program} {w:World} {x:String×DataW Unit} {l:List (String×DataW Unit)} {ps:List MemPlace} (h:DataW.LaidVars P w (x::l) ps):∃q,DataW.LaidVars P w l q:=by
 obtain⟨g',t',cs,fuel,p,q,hg',ht',hvar,hd,h1,_⟩:=h
 exact⟨q,h1⟩
theorem QpM {W:World} {name:String} {g t e n:Nat} {k:IntKind} {zs:List Int} {d:DataW Unit} {rest:List (String×DataW Unit)} {ps:List MemPlace} (hn:Tryd.prog.globalNamed name=some g) (hgt:(Tryd.prog.globals[g]?).map (·.type)=some t)
  (ht:Tryd.prog.underlying t=some (.array n e)) (he:Tryd.prog.underlying e=some (.int k)) (hce:Tryd.prog.cellsOf e=1) (hct:Tryd.prog.cellsOf t=n) (hd0:d=Lib.tabData k zs)
  (h:DataW.LaidVars Tryd.prog W ((name,d)::rest) ps):Lib.TabIs Tryd.prog W name k zs:=by
 subst hd0
 obtain⟨g',t',cs,fuel,p,q,hg',ht',hvar,hd,_,_⟩:=h
 obtain rfl:=Option.some.inj (hn.symm.trans hg')
 obtain rfl:=Option.some.inj (hgt.symm.trans ht')
 unfold Lib.TabIs
 rw[hvar,← Lib.cells_of_tab ht he hce hct hd]
structure Qpt (W:World):Prop where
 t0:Lib.TabIs Tryd.prog W "internal/strconv.uint64pow10" .u64 (Qmi Rows.laid_internal_strconv_uint64pow10)
 t1:Lib.TabIs Tryd.prog W "math/bits.deBruijn64tab" .u8 (Qmi Rows.laid_math_bits_deBruijn64tab)
theorem QpS {W:World} (h:laidMetH Tryd.prog Rows.listingBackRow.laid W):Qpt W:=by
 have h:laidMet Tryd.prog Rows.listingBackRow.laid W:=h
 obtain⟨ps,h0,_⟩:=h
 obtain⟨_,h1⟩:=tail h0
 obtain⟨_,h2⟩:=tail h1
 exact⟨QpM (g:=0) (t:=108) (e:=75) (n:=20) (by kernel_rfl) (by kernel_rfl) (by kernel_rfl) (by kernel_rfl) (by kernel_rfl) (by kernel_rfl) (by kernel_rfl) h2,QpM (g:=5) (t:=121) (e:=5) (n:=64) (by kernel_rfl) (by kernel_rfl) (by kernel_rfl) (by kernel_rfl) (by kernel_rfl) (by kernel_rfl) (by kernel_rfl) h1⟩
theorem cells1 {W:World} {name:String} {g:Nat} {k:IntKind} {zs:List Int} (h:Lib.TabIs Tryd.prog W name k zs) (hn:Tryd.prog.globalNamed name=some g) (j:Nat) (v:Value) (hj:(zs.map (Value.int k))[j]? = some v):W.cell? ⟨g,j,none⟩=some v:=by
 rw[List.getElem?_map,Option.map_eq_some_iff]at hj
 obtain⟨z,hz,rfl⟩:=hj
 have hl:=(List.getElem?_eq_some_iff.1 hz).1
 rw[h.cell hn j hl,List.getD,hz]
 rfl
theorem QpE {W:World} (h:Qpt W):∀t∈tabs,∀ (j:Nat) v,t.c[j]? = some v→W.cell? ⟨t.id,j,none⟩=some v:=by
 intro t ht j v hj
 simp only[tabs,List.mem_cons,List.not_mem_nil,or_false]at ht
 rcases ht with rfl | rfl
 ·exact cells1 h.t0 (by kernel_rfl) j v hj
 ·exact cells1 h.t1 (by kernel_rfl) j v hj
theorem QpK {W:World} (h:Qpt W):∀t∈tabs,t.id<W.heap.size:=by
 intro t ht
 have h0:∃v,t.c[0]? = some v:=by
  simp only[tabs,List.mem_cons,List.not_mem_nil,or_false]at ht
  rcases ht with rfl | rfl
  ·exact⟨.int .u64 1,by kernel_rfl⟩
  ·exact⟨.int .u8 0,by kernel_rfl⟩
 obtain⟨v,hv⟩:=h0
 exact World.block_lt_of_cell? W ⟨t.id,0,none⟩ (QpE h t ht 0 v hv)
theorem tabs_ok:Ab.tabsOk tabs=true:=by kernel_rfl
def QpF:DataW Unit→List Value
 | .lit (.int k z)=>[.int k z]
 | .lit (.string z)=>[.string ⟨z.toArray⟩]
 | _=>[]
def QpT:DataW Unit→List Value
 | .agg xs=>xs.flatMap QpF
 | d=>QpF d
def Qpx:DataW Unit→List Value
 | .agg xs=>xs.flatMap QpT
 | d=>QpF d
def Qps (os:Os):World:=
 let N:=(World.settled Tryd.prog os).heap.size
 let w0:=World.holding Tryd.prog os ⟨#[],#[],[]⟩
 let put (h:Array Obj) (g:Nat) (cs:Array Value):Array Obj:=h.modify g fun
  | .cells _ t frozen=>.cells cs t frozen
  | o=>o
 {w0 with heap:=put (put (put (put (put (w0.heap) 4 (Qpx Rows.laid_math_bits_deBruijn32tab).toArray) 5 (Qpx Rows.laid_math_bits_deBruijn64tab).toArray) 0 (Qpx Rows.laid_internal_strconv_uint64pow10).toArray) 3 (Qpx Rows.laid_unicode_utf8_acceptRanges).toArray) 2 (Qpx Rows.laid_unicode_utf8_first).toArray}
theorem laid_met (os:Os) (args:Array Value):laidMet Tryd.prog Rows.listingBackRow.laid ((Qps os).forCall (fun _ _=>0) ⟨#[],args,[]⟩).memory:=
 laidMet_of_run3 10 (by kernel_rfl) (by kernel_rfl) (by kernel_rfl)
end Go.Proofs.YthoanamkoigjeaaDoor.tab
