/- What the rows' lists give: the cells of the tables that are read; a world that holds all listed variables. -/
import Derived.Test.YtgepgbbjfhggfaaGreatDoorCards
import Derived.LaidByTextLater
import Derived.SevenTiedAt
import Derived.Test.YtgepgbbjfhggfaaGreatDoorLibF
import Derived.WalkKit
import Derived.ProofKit
import Derived.OpenShut
import Derived.Deep.DeepHandedRow
import Derived.Deep.DeepLaidRun
import Derived.Lib.LaidTab
import Derived.Lib.Space
import Derived.Lib.SpaceR
set_option linter.unusedVariables false
set_option maxRecDepth 100000
noncomputable section
namespace Go.Proofs.YtgepgbbjfhggfaaGreatDoor.tab
open Go.ChangeShapes Go.WideShapes Go.ChangeAt Go.RowKit
theorem own:ownKnob Tryz.prog.godebug=none:=by kernel_rfl
theorem tail {P:Program}{w:World}{x:String×DataW Unit}{l:List (String×DataW Unit)}{ab:List MemPlace}(h:DataW.LaidVars P w (x::l) ab):∃q,DataW.LaidVars P w l q:=by
 obtain⟨ad,aj,cs,ac,p,q,ag,ah,ai,ae,aa,_⟩:=h;exact⟨q,aa⟩
theorem QJN {W:World}{aa:String}{g t e n:Nat}{k:IntKind}{zs:List Int}{d:DataW Unit}{ao:List (String×DataW Unit)}{an:List MemPlace}(aj:Tryz.prog.globalNamed aa=some g)(ai:(Tryz.prog.globals[g]?).map (·.type)=some t)
  (ak:Tryz.prog.underlying t=some (.array n e)) (ag:Tryz.prog.underlying e=some (.int k)) (ab:Tryz.prog.cellsOf e=1) (ac:Tryz.prog.cellsOf t=n) (ae:d=Lib.tabData k zs)
  (h:DataW.LaidVars Tryz.prog W ((aa,d)::ao) an):Lib.TabIs Tryz.prog W aa k zs:=by
 subst ae;obtain⟨ar,au,cs,aq,p,q,ah,al,am,ad,_,_⟩:=h;obtain rfl:=Option.some.inj (aj.symm.trans ah);obtain rfl:=Option.some.inj (ai.symm.trans al);unfold Lib.TabIs;rw[am,<- Lib.cells_of_tab ak ag ab ac ad]
structure QrN (W:World):Prop where
 t0:Lib.TabIs Tryz.prog W "strings.asciiSpace" .u8 (QEy Rows.laid_strings_asciiSpace)
theorem Qjn {W:World}(h:laidMetH Tryz.prog Rows.encodeShortRow.laid W):QrN W:=by
 have h:laidMet Tryz.prog Rows.encodeShortRow.laid W:=h;obtain⟨ac,q,_⟩:=h;obtain⟨_,aa⟩:=tail q;obtain⟨_,ab⟩:=tail aa;exact⟨QJN (g:=0) (t:=232) (e:=5) (n:=256) (by kernel_rfl) (by kernel_rfl) (by kernel_rfl) (by kernel_rfl) (by kernel_rfl) (by kernel_rfl) (by kernel_rfl) ab⟩
theorem QIj {W:World}{ab:String}{g:Nat}{k:IntKind}{zs:List Int}(h:Lib.TabIs Tryz.prog W ab k zs)(ad:Tryz.prog.globalNamed ab=some g)(j:Nat)(v:Value)(q:(zs.map (Value.int k))[j]? = some v):W.cell? ⟨g,j,none⟩=some v:=by
 rw[List.getElem?_map,Option.map_eq_some_iff]at q;obtain⟨z,aa,rfl⟩:=q;have ac:=(List.getElem?_eq_some_iff.1 aa).1;rw[h.cell ad j ac,List.getD,aa];rfl
theorem QEB {W:World}(h:QrN W):∀t∈tabs,∀ (j:Nat) v,t.c[j]? = some v->W.cell? ⟨t.id,j,none⟩=some v:=by
 intro t q j v aa;simp only[tabs,List.mem_cons,List.not_mem_nil,or_false]at q;subst q;exact QIj h.t0 (by kernel_rfl) j v aa
theorem QGz {W:World}(h:QrN W):∀t∈tabs,t.id<W.heap.size:=by
 intro t q;have aa:∃v,t.c[0]? = some v:=by
  simp only[tabs,List.mem_cons,List.not_mem_nil,or_false]at q;subst q;exact⟨.int .u8 0,by kernel_rfl⟩
 obtain⟨v,ab⟩:=aa;exact World.block_lt_of_cell? W ⟨t.id,0,none⟩ (QEB h t q 0 v ab)
theorem tabs_ok:Ab.tabsOk tabs=true:=by kernel_rfl
def QEC:DataW Unit->List Value
 | .lit (.int k z)=>[.int k z]
 | .lit (.string z)=>[.string ⟨z.toArray⟩]
 | _=>[]
def QJO:DataW Unit->List Value
 | .agg xs=>xs.flatMap QEC
 | d=>QEC d
def Qvb:DataW Unit->List Value
 | .agg xs=>xs.flatMap QJO
 | d=>QEC d
noncomputable def Qqd (os:Os):World:=
 let N:=(World.settled Tryz.prog os).heap.size
 let q:=World.holding Tryz.prog os ⟨#[.cells (Lib.whiteT.map fun(z:Nat)=>Value.int .u16 (z:Int)).toArray 310,.cells #[.slice (some ⟨N+0,0,none⟩) 7 7,.slice none 0 0,.int .i64 2] 307,.cells #[.string ⟨#[105,110,118,97,108,105,100,32,115,121,110,116,97,120]⟩] 343,.cells #[.string ⟨#[118,97,108,117,101,32,111,117,116,32,111,102,32,114,97,110,103,101]⟩] 343],#[],[]⟩
 let put (h:Array Obj) (g:Nat) (cs:Array Value):Array Obj:=h.modify g fun
  | .cells _ t aa=>.cells cs t aa
  | o=>o
 {q with heap:=put (put (put (put (put (put (put (put (put (q.heap) 3 (Qvb Rows.laid_unicode_utf8_first).toArray) 4 (Qvb Rows.laid_unicode_utf8_acceptRanges).toArray) 0 (Qvb Rows.laid_strings_asciiSpace).toArray) 1 #[.pointer (some ⟨N+1,0,none⟩)]) 5 #[.iface 341 (.pointer (some ⟨N+2,0,none⟩))]) 6 #[.iface 341 (.pointer (some ⟨N+3,0,none⟩))]) 7 (Qvb Rows.laid_internal_strconv_uint64pow10).toArray) 8 (Qvb Rows.laid_math_bits_deBruijn32tab).toArray) 9 (Qvb Rows.laid_math_bits_deBruijn64tab).toArray}
theorem laid_met (os:Os)(args:Array Value):laidMet Tryz.prog Rows.encodeShortRow.laid ((Qqd os).forCall (λ_ _=>0) ⟨#[],args,[]⟩).memory:=
 laidMet_of_run3 10 (by kernel_rfl) (by kernel_rfl) (by kernel_rfl)
end Go.Proofs.YtgepgbbjfhggfaaGreatDoor.tab
