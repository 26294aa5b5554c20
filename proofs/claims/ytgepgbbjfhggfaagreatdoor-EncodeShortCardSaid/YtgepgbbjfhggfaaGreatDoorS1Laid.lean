/- What the rows' lists give: the cells of the tables that are read; a world that holds all listed variables. -/
import Derived.Test.YtgepgbbjfhggfaaGreatDoorCards
import Derived.LaidByTextLater
import Derived.SevenTiedAt
import Derived.Test.YtgepgbbjfhggfaaGreatDoorLibF
import Derived.WalkKit
import Derived.ProofKit
import Derived.OpenShut
import Derived.Deep.DeepHandedRow
import Derived.Deep.DeepLaidRun
import Derived.Lib.LaidTab
import Derived.Lib.Space
import Derived.Lib.SpaceR
set_option linter.unusedVariables false
set_option maxRecDepth 100000
noncomputable section
namespace Go.Proofs.YtgepgbbjfhggfaaGreatDoor.tab
open Go.ChangeShapes Go.WideShapes Go.ChangeAt Go.RowKit
theorem own:ownKnob Tryz.prog.godebug=none:=by kernel_rfl
theorem tail {P:Program}{w:World}{x:String×DataW Unit}{l:List (String×DataW Unit)}{ps:List MemPlace}(h:DataW.LaidVars P w (x::l) ps):∃q,DataW.LaidVars P w l q:=by
 obtain⟨g',t',cs,fuel,p,q,hg',ht',hvar,hd,h1,_⟩:=h;exact⟨q,h1⟩
theorem QJp {W:World}{name:String}{g t e n:Nat}{k:IntKind}{zs:List Int}{d:DataW Unit}{rest:List (String×DataW Unit)}{ps:List MemPlace}(hn:Tryz.prog.globalNamed name=some g)(hgt:(Tryz.prog.globals[g]?).map (·.type)=some t)
  (ht:Tryz.prog.underlying t=some (.array n e)) (he:Tryz.prog.underlying e=some (.int k)) (hce:Tryz.prog.cellsOf e=1) (hct:Tryz.prog.cellsOf t=n) (hd0:d=Lib.tabData k zs)
  (h:DataW.LaidVars Tryz.prog W ((name,d)::rest) ps):Lib.TabIs Tryz.prog W name k zs:=by
 subst hd0;obtain⟨g',t',cs,fuel,p,q,hg',ht',hvar,hd,_,_⟩:=h;obtain rfl:=Option.some.inj (hn.symm.trans hg');obtain rfl:=Option.some.inj (hgt.symm.trans ht');unfold Lib.TabIs;rw[hvar,<- Lib.cells_of_tab ht he hce hct hd]
structure Qry (W:World):Prop where
 t0:Lib.TabIs Tryz.prog W "strings.asciiSpace" .u8 (QD8 Rows.laid_strings_asciiSpace)
theorem Qjd {W:World}(h:laidMetH Tryz.prog Rows.encodeShortRow.laid W):Qry W:=by
 have h:laidMet Tryz.prog Rows.encodeShortRow.laid W:=h;obtain⟨ps,h0,_⟩:=h;obtain⟨_,h1⟩:=tail h0;obtain⟨_,h2⟩:=tail h1;exact⟨QJp (g:=0) (t:=232) (e:=5) (n:=256) (by kernel_rfl) (by kernel_rfl) (by kernel_rfl) (by kernel_rfl) (by kernel_rfl) (by kernel_rfl) (by kernel_rfl) h2⟩
theorem QHU {W:World}{name:String}{g:Nat}{k:IntKind}{zs:List Int}(h:Lib.TabIs Tryz.prog W name k zs)(hn:Tryz.prog.globalNamed name=some g)(j:Nat)(v:Value)(hj:(zs.map (Value.int k))[j]? = some v):W.cell? ⟨g,j,none⟩=some v:=by
 rw[List.getElem?_map,Option.map_eq_some_iff]at hj;obtain⟨z,hz,rfl⟩:=hj;have hl:=(List.getElem?_eq_some_iff.1 hz).1;rw[h.cell hn j hl,List.getD,hz];rfl
theorem QEb {W:World}(h:Qry W):∀t∈tabs,∀ (j:Nat) v,t.c[j]? = some v->W.cell? ⟨t.id,j,none⟩=some v:=by
 intro t ht j v hj;simp only[tabs,List.mem_cons,List.not_mem_nil,or_false]at ht;subst ht;exact QHU h.t0 (by kernel_rfl) j v hj
theorem QGc {W:World}(h:Qry W):∀t∈tabs,t.id<W.heap.size:=by
 intro t ht;have h0:∃v,t.c[0]? = some v:=by
  simp only[tabs,List.mem_cons,List.not_mem_nil,or_false]at ht;subst ht;exact⟨.int .u8 0,by kernel_rfl⟩
 obtain⟨v,hv⟩:=h0;exact World.block_lt_of_cell? W ⟨t.id,0,none⟩ (QEb h t ht 0 v hv)
theorem tabs_ok:Ab.tabsOk tabs=true:=by kernel_rfl
def QEc:DataW Unit->List Value
 | .lit (.int k z)=>[.int k z]
 | .lit (.string z)=>[.string ⟨z.toArray⟩]
 | _=>[]
def QJq:DataW Unit->List Value
 | .agg xs=>xs.flatMap QEc
 | d=>QEc d
def QuT:DataW Unit->List Value
 | .agg xs=>xs.flatMap QJq
 | d=>QEc d
noncomputable def Qp1 (os:Os):World:=
 let N:=(World.settled Tryz.prog os).heap.size
 let w0:=World.holding Tryz.prog os ⟨#[.cells (Lib.whiteT.map fun(z:Nat)=>Value.int .u16 (z:Int)).toArray 310,.cells #[.slice (some ⟨N+0,0,none⟩) 7 7,.slice none 0 0,.int .i64 2] 307,.cells #[.string ⟨#[105,110,118,97,108,105,100,32,115,121,110,116,97,120]⟩] 343,.cells #[.string ⟨#[118,97,108,117,101,32,111,117,116,32,111,102,32,114,97,110,103,101]⟩] 343],#[],[]⟩
 let put (h:Array Obj) (g:Nat) (cs:Array Value):Array Obj:=h.modify g fun
  | .cells _ t frozen=>.cells cs t frozen
  | o=>o
 {w0 with heap:=put (put (put (put (put (put (put (put (put (w0.heap) 3 (QuT Rows.laid_unicode_utf8_first).toArray) 4 (QuT Rows.laid_unicode_utf8_acceptRanges).toArray) 0 (QuT Rows.laid_strings_asciiSpace).toArray) 1 #[.pointer (some ⟨N+1,0,none⟩)]) 5 #[.iface 341 (.pointer (some ⟨N+2,0,none⟩))]) 6 #[.iface 341 (.pointer (some ⟨N+3,0,none⟩))]) 7 (QuT Rows.laid_internal_strconv_uint64pow10).toArray) 8 (QuT Rows.laid_math_bits_deBruijn32tab).toArray) 9 (QuT Rows.laid_math_bits_deBruijn64tab).toArray}
theorem laid_met (os:Os)(args:Array Value):laidMet Tryz.prog Rows.encodeShortRow.laid ((Qp1 os).forCall (λ_ _=>0) ⟨#[],args,[]⟩).memory:=
 laidMet_of_run3 10 (by kernel_rfl) (by kernel_rfl) (by kernel_rfl)
end Go.Proofs.YtgepgbbjfhggfaaGreatDoor.tab
