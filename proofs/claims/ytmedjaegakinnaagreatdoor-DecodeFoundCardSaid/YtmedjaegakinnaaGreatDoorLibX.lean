/- What the rows' lists give: the cells of the tables that are read; a world that holds all listed variables. -/
import Derived.Test.YtmedjaegakinnaaGreatDoorCards
import Derived.Test.YtmedjaegakinnaaGreatDoorTie
import Derived.Test.YtmedjaegakinnaaGreatDoorLibS
import Derived.WalkKit
import Derived.ProofKit
import Derived.OpenShut
import Derived.Deep.DeepHandedRow
import Derived.Deep.DeepLaidRun
import Derived.Lib.LaidTab
import Derived.Lib.Space
import Derived.Lib.SpaceR
import Derived.Test.YtmedjaegakinnaaGreatDoorS0PA
import Derived.Test.YtmedjaegakinnaaGreatDoorS0PB
import Derived.Test.YtmedjaegakinnaaGreatDoorS0PC
set_option linter.defProp false
set_option linter.unusedVariables false
set_option maxRecDepth 100000
noncomputable section
namespace Go.Proofs.YtmedjaegakinnaaGreatDoor.tab
open Go.ChangeShapes Go.WideShapes Go.ChangeAt Go.RowKit
def own:ownKnob Tryz.prog.godebug=none:=by kernel_rfl
def tail {P:Program}{w:World}{x:String×DataW Unit}{l:List (String×DataW Unit)}{ab:List MemPlace}(h:DataW.LaidVars P w (x::l) ab):∃q,DataW.LaidVars P w l q:=by
 obtain⟨ad,aj,cs,ac,p,q,ag,ah,ai,ae,aa,_⟩:=h;exact⟨q,aa⟩
def QEe {W:World}{aa:String}{g t e n:Nat}{k:IntKind}{zs:List Int}{d:DataW Unit}{rest:List (String×DataW Unit)}{ao:List MemPlace}(aj:Tryz.prog.globalNamed aa=some g)(ai:(Tryz.prog.globals[g]?).map (·.type)=some t)
  (ak:Tryz.prog.underlying t=some (.array n e)) (ag:Tryz.prog.underlying e=some (.int k)) (ab:Tryz.prog.cellsOf e=1) (ac:Tryz.prog.cellsOf t=n) (ae:d=Lib.tabData k zs)
  (h:DataW.LaidVars Tryz.prog W ((aa,d)::rest) ao):Lib.TabIs Tryz.prog W aa k zs:=by
 subst ae;obtain⟨aq,ar,cs,ap,p,q,ah,am,an,ad,_,_⟩:=h;obtain rfl:=Option.some.inj (aj.symm.trans ah);obtain rfl:=Option.some.inj (ai.symm.trans am);unfold Lib.TabIs;rw[an,<- Lib.cells_of_tab ak ag ab ac ad]
structure QoS (W:World):Prop where
 t0:Lib.TabIs Tryz.prog W "strings.asciiSpace" .u8 (QmX Rows.laid_strings_asciiSpace)
 t1:Lib.TabIs Tryz.prog W "internal/strconv.uint64pow10" .u64 (QmX Rows.laid_internal_strconv_uint64pow10)
 t2:Lib.TabIs Tryz.prog W "math/bits.deBruijn64tab" .u8 (QmX Rows.laid_math_bits_deBruijn64tab)
def QfT {W:World}(h:laidMetH Tryz.prog Rows.decodeFoundRow.laid W):QoS W:=by
 have h:laidMet Tryz.prog Rows.decodeFoundRow.laid W:=h;obtain⟨ai,ab,_⟩:=h;obtain⟨_,q⟩:=tail ab;obtain⟨_,aa⟩:=tail q;obtain⟨_,ac⟩:=tail aa;obtain⟨_,ad⟩:=tail ac;obtain⟨_,ae⟩:=tail ad;obtain⟨_,ag⟩:=tail ae;obtain⟨_,ah⟩:=tail ag;exact⟨QEe (g:=0) (t:=232) (e:=5) (n:=256) (by kernel_rfl) (by kernel_rfl) (by kernel_rfl) (by kernel_rfl) (by kernel_rfl) (by kernel_rfl) (by kernel_rfl) ah,QEe (g:=7) (t:=343) (e:=96) (n:=20) (by kernel_rfl) (by kernel_rfl) (by kernel_rfl) (by kernel_rfl) (by kernel_rfl) (by kernel_rfl) (by kernel_rfl) aa,QEe (g:=9) (t:=348) (e:=5) (n:=64) (by kernel_rfl) (by kernel_rfl) (by kernel_rfl) (by kernel_rfl) (by kernel_rfl) (by kernel_rfl) (by kernel_rfl) q⟩
def Qyu {W:World}{ab:String}{g:Nat}{k:IntKind}{zs:List Int}(h:Lib.TabIs Tryz.prog W ab k zs)(ad:Tryz.prog.globalNamed ab=some g)(j:Nat)(v:Value)(q:(zs.map (Value.int k))[j]? = some v):W.cell? ⟨g,j,none⟩=some v:=by
 rw[List.getElem?_map,Option.map_eq_some_iff]at q;obtain⟨z,aa,rfl⟩:=q;have ac:=(List.getElem?_eq_some_iff.1 aa).1;rw[h.cell ad j ac,List.getD,aa];rfl
def QEf {W:World}(h:QoS W):∀t∈tabs,∀ (j:Nat) v,t.c[j]? = some v->W.cell? ⟨t.id,j,none⟩=some v:=by
 intro t aa j v q;simp only[tabs,List.mem_cons,List.not_mem_nil,or_false]at aa;rcases aa with rfl | rfl | rfl;·exact Qyu h.t0 (by kernel_rfl) j v q
 ·exact Qyu h.t1 (by kernel_rfl) j v q
 exact Qyu h.t2 (by kernel_rfl) j v q
def QGU {W:World}(h:QoS W):∀t∈tabs,t.id<W.heap.size:=by
 intro t q;have aa:∃v,t.c[0]? = some v:=by
  simp only[tabs,List.mem_cons,List.not_mem_nil,or_false]at q;rcases q with rfl | rfl | rfl;·exact⟨.int .u8 0,by kernel_rfl⟩
  ·exact⟨.int .u64 1,by kernel_rfl⟩
  exact⟨.int .u8 0,by kernel_rfl⟩
 obtain⟨v,ab⟩:=aa;exact World.block_lt_of_cell? W ⟨t.id,0,none⟩ (QEf h t q 0 v ab)
def tabs_ok:Ab.tabsOk tabs=true:=by kernel_rfl
def QEg:DataW Unit->List Value
 | .lit (.int k z)=>[.int k z]
 | .lit (.string z)=>[.string ⟨z.toArray⟩]
 | _=>[]
def QKB:DataW Unit->List Value
 | .agg xs=>xs.flatMap QEg
 | d=>QEg d
def QsM:DataW Unit->List Value
 | .agg xs=>xs.flatMap QKB
 | d=>QEg d
noncomputable def QmY (os:Os):World:=
 let N:=(World.settled Tryz.prog os).heap.size
 let q:=World.holding Tryz.prog os ⟨#[.cells #[.string ⟨#[118,97,108,117,101,32,111,117,116,32,111,102,32,114,97,110,103,101]⟩] 335,.cells #[.string ⟨#[105,110,118,97,108,105,100,32,115,121,110,116,97,120]⟩] 335,.cells (Lib.whiteT.map fun(z:Nat)=>Value.int .u16 (z:Int)).toArray 308,.cells #[.S (N+2) 7 7,.slice none 0 0,.Z 2] 305],#[],[]⟩
 let put (h:Array Obj) (g:Nat) (cs:Array Value):Array Obj:=h.modify g fun
  | .cells _ t aa=>.cells cs t aa
  | o=>o
 {q with heap:=put (put (put (put (put (put (put (put (put (q.heap) 8 (QsM Rows.laid_math_bits_deBruijn32tab).toArray) 9 (QsM Rows.laid_math_bits_deBruijn64tab).toArray) 7 (QsM Rows.laid_internal_strconv_uint64pow10).toArray) 4 (QsM Rows.laid_unicode_utf8_acceptRanges).toArray) 6 #[.iface 333 (.P (N+0))]) 5 #[.iface 333 (.P (N+1))]) 1 #[.P (N+3)]) 0 (QsM Rows.laid_strings_asciiSpace).toArray) 3 (QsM Rows.laid_unicode_utf8_first).toArray}
def laid_met (os:Os)(args:Array Value):laidMet Tryz.prog Rows.decodeFoundRow.laid ((QmY os).forCall (λ_ _=>0) ⟨#[],args,[]⟩).memory:=
 laidMet_of_run3 10 (by kernel_rfl) (by kernel_rfl) (by kernel_rfl)
def QJm:Ab.IsExt Tryz.prog 277 .count:=⟨Tryz.f277,Tryz.func277,by kernel_rfl,by kernel_rfl,by kernel_rfl,by kernel_rfl⟩
def QJn:Ab.IsExt Tryz.prog 300 .indexByte:=⟨Tryz.f300,Tryz.func300,by kernel_rfl,by kernel_rfl,by kernel_rfl,by kernel_rfl⟩
def QfU:Ab.CallOk Tryz.prog (Ab.xknown xt):=Ab.xknown_ok λf k h=>by
 unfold xt at h;cases q:Nat.beq f 277 with
 | true=>
  rw[q]at h;cases h;obtain rfl:=Nat.eq_of_beq_eq_true q;exact QJm
 | false=>
  rw[q]at h;cases aa:Nat.beq f 300 with
  | true=>
   rw[aa]at h;cases h;obtain rfl:=Nat.eq_of_beq_eq_true aa;exact QJn
  | false=>
   rw[aa]at h;cases h
def tabs_low:∀t∈tabs,t.id<Tryz.prog.globals.size:=by
 have h:(tabs.all λt=>Nat.blt t.id Tryz.prog.globals.size)=true:=by kernel_rfl
 intro t q;have:=List.all_eq_true.1 h t q;simpa using this
def XO {aa:Ab.CallF}(ac:Ab.CallOk Tryz.prog aa){l:List Ab.SumI}(h:YZ aa l=true)(ab:(l.all λs=>Ab.entered Tryz.prog s.f)=true):∀s∈l,Ab.SumIOk Tryz.prog tabs s:=λs q=>
 Ab.sumI_ok ac (List.all_eq_true.1 ab s q) (List.all_eq_true.1 h s q)
def QGV:∀f,∀s∈QKA f,Ab.SumIOk Tryz.prog tabs s:=λf s q=>by cases q
def QwG:∀s∈Qun,Ab.SumIOk Tryz.prog tabs s:=XO QfU Qyv (by kernel_rfl)
def QwH:∀s∈Quo,Ab.SumIOk Tryz.prog tabs s:=XO QfU Qyw (by kernel_rfl)
def QwI:∀s∈Qup,Ab.SumIOk Tryz.prog tabs s:=XO QfU Qyx (by kernel_rfl)
def QwJ:∀s∈Quq,Ab.SumIOk Tryz.prog tabs s:=XO QfU Qyy (by kernel_rfl)
def QzW:∀f,∀s∈QGN f,Ab.SumIOk Tryz.prog tabs s:=λf s q=>by
 unfold QGN at q;cases h:Nat.beq f 163 with
 | true=>
  rw[h,cond_true]at q;simp only[List.mem_append]at q;rcases q with((q | q) | q) | q;·exact QwG s q
  ·exact QwH s q
  ·exact QwI s q
  exact QwJ s q
 | false=>
  rw[h,cond_false]at q;exact QGV f s q
def QJo:Ab.CallOk Tryz.prog kn1:=Ab.orKnown_ok QfU (Ab.byFn_ok tabs_ok tabs_low QzW)
def QwK:∀s∈Qur,Ab.SumIOk Tryz.prog tabs s:=XO QJo Qyz (by kernel_rfl)
def QzX:∀f,∀s∈QGO f,Ab.SumIOk Tryz.prog tabs s:=λf s q=>by
 unfold QGO at q;cases h:Nat.beq f 221 with
 | true=>
  rw[h,cond_true]at q;exact QwK s q
 | false=>
  rw[h,cond_false]at q;exact QzW f s q
def QhA:Ab.CallOk Tryz.prog kn2:=Ab.orKnown_ok QfU (Ab.byFn_ok tabs_ok tabs_low QzX)
def QwL:∀s∈Qus,Ab.SumIOk Tryz.prog tabs s:=XO QhA QyA (by kernel_rfl)
def QwM:∀s∈Qut,Ab.SumIOk Tryz.prog tabs s:=XO QhA QyB (by kernel_rfl)
def QwN:∀s∈Quu,Ab.SumIOk Tryz.prog tabs s:=XO QhA QyC (by kernel_rfl)
def QwO:∀s∈Quv,Ab.SumIOk Tryz.prog tabs s:=XO QhA QyD (by kernel_rfl)
def QwP:∀s∈Quw,Ab.SumIOk Tryz.prog tabs s:=XO QhA QyE (by kernel_rfl)
def QwQ:∀s∈Qux,Ab.SumIOk Tryz.prog tabs s:=XO QhA QyF (by kernel_rfl)
def QwR:∀s∈Quy,Ab.SumIOk Tryz.prog tabs s:=XO QhA QyG (by kernel_rfl)
def QwS:∀s∈Quz,Ab.SumIOk Tryz.prog tabs s:=XO QhA QyH (by kernel_rfl)
def QzY:∀f,∀s∈QGP f,Ab.SumIOk Tryz.prog tabs s:=λf s q=>by
 unfold QGP at q;cases h:Nat.beq f 160 with
 | true=>
  rw[h,cond_true]at q;simp only[List.mem_append]at q;rcases q with((((((q | q) | q) | q) | q) | q) | q) | q;·exact QwL s q
  ·exact QwM s q
  ·exact QwN s q
  ·exact QwO s q
  ·exact QwP s q
  ·exact QwQ s q
  ·exact QwR s q
  exact QwS s q
 | false=>
  rw[h,cond_false]at q;exact QzX f s q
def QJp:Ab.CallOk Tryz.prog kn3:=Ab.orKnown_ok QfU (Ab.byFn_ok tabs_ok tabs_low QzY)
def all_sums3_0:∀s∈QuA,Ab.SumIOk Tryz.prog tabs s:=XO QJp QyI (by kernel_rfl)
def QzZ:∀f,∀s∈QGQ f,Ab.SumIOk Tryz.prog tabs s:=λf s q=>by
 unfold QGQ at q;cases h:Nat.beq f 96 with
 | true=>
  rw[h,cond_true]at q;exact all_sums3_0 s q
 | false=>
  rw[h,cond_false]at q;exact QzY f s q
def QJq:Ab.CallOk Tryz.prog kn4:=Ab.orKnown_ok QfU (Ab.byFn_ok tabs_ok tabs_low QzZ)
def all_sums4_0:∀s∈QuB,Ab.SumIOk Tryz.prog tabs s:=XO QJq QyJ (by kernel_rfl)
def Qz0:∀f,∀s∈QGR f,Ab.SumIOk Tryz.prog tabs s:=λf s q=>by
 unfold QGR at q;cases h:Nat.beq f 97 with
 | true=>
  rw[h,cond_true]at q;exact all_sums4_0 s q
 | false=>
  rw[h,cond_false]at q;exact QzZ f s q
def QJr:Ab.CallOk Tryz.prog kn5:=Ab.orKnown_ok QfU (Ab.byFn_ok tabs_ok tabs_low Qz0)
def all_sums5_0:∀s∈QuC,Ab.SumIOk Tryz.prog tabs s:=XO QJr QyK (by kernel_rfl)
def Qz1:∀f,∀s∈QGS f,Ab.SumIOk Tryz.prog tabs s:=λf s q=>by
 unfold QGS at q;cases h:Nat.beq f 98 with
 | true=>
  rw[h,cond_true]at q;exact all_sums5_0 s q
 | false=>
  rw[h,cond_false]at q;exact Qz0 f s q
def QJs:Ab.CallOk Tryz.prog kn6:=Ab.orKnown_ok QfU (Ab.byFn_ok tabs_ok tabs_low Qz1)
def all_sums6_0:∀s∈QuD,Ab.SumIOk Tryz.prog tabs s:=XO QJs QyL (by kernel_rfl)
def Qz2:∀f,∀s∈QGT f,Ab.SumIOk Tryz.prog tabs s:=λf s q=>by
 unfold QGT at q;cases h:Nat.beq f 99 with
 | true=>
  rw[h,cond_true]at q;exact all_sums6_0 s q
 | false=>
  rw[h,cond_false]at q;exact Qz1 f s q
def QJt:Ab.CallOk Tryz.prog kn7:=Ab.orKnown_ok QfU (Ab.byFn_ok tabs_ok tabs_low Qz2)
def all_sums7_0:∀s∈QuE,Ab.SumIOk Tryz.prog tabs s:=XO QJt QyM (by kernel_rfl)
def QGW:∀f,∀s∈QJl f,Ab.SumIOk Tryz.prog tabs s:=λf s q=>by
 unfold QJl at q;cases h:Nat.beq f 100 with
 | true=>
  rw[h,cond_true]at q;exact all_sums7_0 s q
 | false=>
  rw[h,cond_false]at q;exact Qz2 f s q
def QJu:Ab.CallOk Tryz.prog kn8:=Ab.orKnown_ok QfU (Ab.byFn_ok tabs_ok tabs_low QGW)
def all_sums8_0:∀s∈QzV,Ab.SumIOk Tryz.prog tabs s:=XO QJu QyN (by kernel_rfl)
