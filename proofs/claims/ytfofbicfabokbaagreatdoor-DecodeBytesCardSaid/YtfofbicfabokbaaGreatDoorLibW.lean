/- What the rows' lists give: the cells of the tables that are read; a world that holds all listed variables. -/
import Derived.Test.YtfofbicfabokbaaGreatDoorCards
import Derived.Test.YtfofbicfabokbaaGreatDoorTie
import Derived.Test.YtfofbicfabokbaaGreatDoorLibS
import Derived.WalkKit
import Derived.ProofKit
import Derived.OpenShut
import Derived.Deep.DeepHandedRow
import Derived.Deep.DeepLaidRun
import Derived.Lib.LaidTab
import Derived.Lib.Space
import Derived.Lib.SpaceR
import Derived.Test.YtfofbicfabokbaaGreatDoorS0PA
import Derived.Test.YtfofbicfabokbaaGreatDoorS0PB
import Derived.Test.YtfofbicfabokbaaGreatDoorS0P9
import Derived.Test.YtfofbicfabokbaaGreatDoorS0PD
set_option linter.unusedVariables false
set_option maxRecDepth 100000
noncomputable section
namespace Go.Proofs.YtfofbicfabokbaaGreatDoor.tab
open Go.ChangeShapes Go.WideShapes Go.ChangeAt Go.RowKit
theorem own:ownKnob Tryz.prog.godebug=none:=by kernel_rfl
theorem tail {P:Program} {w:World} {x:String×DataW Unit} {l:List (String×DataW Unit)} {ps:List MemPlace} (h:DataW.LaidVars P w (x::l) ps):∃q,DataW.LaidVars P w l q:=by
 obtain⟨g',t',cs,fuel,p,q,hg',ht',hvar,hd,h1,_⟩:=h;exact⟨q,h1⟩
theorem QHD {W:World} {name:String} {g t e n:Nat} {k:IntKind} {zs:List Int} {d:DataW Unit} {rest:List (String×DataW Unit)} {ps:List MemPlace} (hn:Tryz.prog.globalNamed name=some g) (hgt:(Tryz.prog.globals[g]?).map (·.type)=some t)
  (ht:Tryz.prog.underlying t=some (.array n e)) (he:Tryz.prog.underlying e=some (.int k)) (hce:Tryz.prog.cellsOf e=1) (hct:Tryz.prog.cellsOf t=n) (hd0:d=Lib.tabData k zs)
  (h:DataW.LaidVars Tryz.prog W ((name,d)::rest) ps):Lib.TabIs Tryz.prog W name k zs:=by
 subst hd0;obtain⟨g',t',cs,fuel,p,q,hg',ht',hvar,hd,_,_⟩:=h;obtain rfl:=Option.some.inj (hn.symm.trans hg');obtain rfl:=Option.some.inj (hgt.symm.trans ht');unfold Lib.TabIs;rw[hvar,<- Lib.cells_of_tab ht he hce hct hd]
structure QpV (W:World):Prop where
 t0:Lib.TabIs Tryz.prog W "strings.asciiSpace" .u8 (QtW Rows.laid_strings_asciiSpace)
theorem QjF {W:World} (h:laidMetH Tryz.prog Rows.decodeBytesRow.laid W):QpV W:=by
 have h:laidMet Tryz.prog Rows.decodeBytesRow.laid W:=h;obtain⟨ps,h0,_⟩:=h;obtain⟨_,h1⟩:=tail h0;obtain⟨_,h2⟩:=tail h1;obtain⟨_,h3⟩:=tail h2;obtain⟨_,h4⟩:=tail h3;obtain⟨_,h5⟩:=tail h4;obtain⟨_,h6⟩:=tail h5;obtain⟨_,h7⟩:=tail h6;exact⟨QHD (g:=0) (t:=219) (e:=5) (n:=256) (by kernel_rfl) (by kernel_rfl) (by kernel_rfl) (by kernel_rfl) (by kernel_rfl) (by kernel_rfl) (by kernel_rfl) h7⟩
theorem QGt {W:World} {name:String} {g:Nat} {k:IntKind} {zs:List Int} (h:Lib.TabIs Tryz.prog W name k zs) (hn:Tryz.prog.globalNamed name=some g) (j:Nat) (v:Value) (hj:(zs.map (Value.int k))[j]? = some v):W.cell? ⟨g,j,none⟩=some v:=by
 rw[List.getElem?_map,Option.map_eq_some_iff]at hj;obtain⟨z,hz,rfl⟩:=hj;have hl:=(List.getElem?_eq_some_iff.1 hz).1;rw[h.cell hn j hl,List.getD,hz];rfl
theorem QCm {W:World} (h:QpV W):∀t∈tabs,∀ (j:Nat) v,t.c[j]? = some v->W.cell? ⟨t.id,j,none⟩=some v:=by
 intro t ht j v hj;simp only[tabs,List.mem_cons,List.not_mem_nil,or_false]at ht;subst ht;exact QGt h.t0 (by kernel_rfl) j v hj
theorem QEt {W:World} (h:QpV W):∀t∈tabs,t.id<W.heap.size:=by
 intro t ht;have h0:∃v,t.c[0]? = some v:=by
  simp only[tabs,List.mem_cons,List.not_mem_nil,or_false]at ht;subst ht;exact⟨.int .u8 0,by kernel_rfl⟩
 obtain⟨v,hv⟩:=h0;exact World.block_lt_of_cell? W ⟨t.id,0,none⟩ (QCm h t ht 0 v hv)
theorem tabs_ok:Ab.tabsOk tabs=true:=by kernel_rfl
def QCn:DataW Unit->List Value
 | .lit (.int k z)=>[.int k z]
 | .lit (.string z)=>[.string ⟨z.toArray⟩]
 | _=>[]
def QHE:DataW Unit->List Value
 | .agg xs=>xs.flatMap QCn
 | d=>QCn d
def QsP:DataW Unit->List Value
 | .agg xs=>xs.flatMap QHE
 | d=>QCn d
noncomputable def Qom (os:Os):World:=
 let N:=(World.settled Tryz.prog os).heap.size
 let w0:=World.holding Tryz.prog os ⟨#[.cells #[.string ⟨#[118,97,108,117,101,32,111,117,116,32,111,102,32,114,97,110,103,101]⟩] 301,.cells #[.string ⟨#[105,110,118,97,108,105,100,32,115,121,110,116,97,120]⟩] 301,.cells (Lib.whiteT.map fun(z:Nat)=>Value.int .u16 (z:Int)).toArray 274,.cells #[.slice (some ⟨N+2,0,none⟩) 7 7,.slice none 0 0,.int .i64 2] 271],#[],[]⟩
 let put (h:Array Obj) (g:Nat) (cs:Array Value):Array Obj:=h.modify g fun
  | .cells _ t frozen=>.cells cs t frozen
  | o=>o
 {w0 with heap:=put (put (put (put (put (put (put (put (put (w0.heap) 8 (QsP Rows.laid_math_bits_deBruijn32tab).toArray) 9 (QsP Rows.laid_math_bits_deBruijn64tab).toArray) 7 (QsP Rows.laid_internal_strconv_uint64pow10).toArray) 4 (QsP Rows.laid_unicode_utf8_acceptRanges).toArray) 6 #[.iface 299 (.pointer (some ⟨N+0,0,none⟩))]) 5 #[.iface 299 (.pointer (some ⟨N+1,0,none⟩))]) 1 #[.pointer (some ⟨N+3,0,none⟩)]) 0 (QsP Rows.laid_strings_asciiSpace).toArray) 3 (QsP Rows.laid_unicode_utf8_first).toArray}
theorem laid_met (os:Os) (args:Array Value):laidMet Tryz.prog Rows.decodeBytesRow.laid ((Qom os).forCall (λ_ _=>0) ⟨#[],args,[]⟩).memory:=
 laidMet_of_run3 10 (by kernel_rfl) (by kernel_rfl) (by kernel_rfl)
theorem QGu:Ab.IsExt Tryz.prog 323 .count:=⟨Tryz.f323,Tryz.func323,by kernel_rfl,by kernel_rfl,by kernel_rfl,by kernel_rfl⟩
theorem QGv:Ab.IsExt Tryz.prog 339 .indexByte:=⟨Tryz.f339,Tryz.func339,by kernel_rfl,by kernel_rfl,by kernel_rfl,by kernel_rfl⟩
theorem xt_ok:Ab.CallOk Tryz.prog (Ab.xknown xt):=Ab.xknown_ok λf k h=>by
 unfold xt at h;cases h323:Nat.beq f 323 with
 | true=>
  rw[h323]at h;cases h;obtain rfl:=Nat.eq_of_beq_eq_true h323;exact QGu
 | false=>
  rw[h323]at h;cases h339:Nat.beq f 339 with
  | true=>
   rw[h339]at h;cases h;obtain rfl:=Nat.eq_of_beq_eq_true h339;exact QGv
  | false=>
   rw[h339]at h;cases h
theorem tabs_low:∀t∈tabs,t.id<Tryz.prog.globals.size:=by
 have h:(tabs.all λt=>Nat.blt t.id Tryz.prog.globals.size)=true:=by kernel_rfl
 intro t ht;have:=List.all_eq_true.1 h t ht;simpa using this
theorem Xh {kn:Ab.CallF} (hk:Ab.CallOk Tryz.prog kn) {l:List Ab.SumI} (h:YE kn l=true) (he:(l.all λs=>Ab.entered Tryz.prog s.f)=true):∀s∈l,Ab.SumIOk Tryz.prog tabs s:=λs hs=>
 Ab.sumI_ok hk (List.all_eq_true.1 he s hs) (List.all_eq_true.1 h s hs)
theorem QEu:∀f,∀s∈QHx f,Ab.SumIOk Tryz.prog tabs s:=λf s hs=>by cases hs
theorem QvG:∀s∈QtX,Ab.SumIOk Tryz.prog tabs s:=Xh xt_ok Qxo (by kernel_rfl)
theorem QvH:∀s∈QtY,Ab.SumIOk Tryz.prog tabs s:=Xh xt_ok Qxp (by kernel_rfl)
theorem QvI:∀s∈QtZ,Ab.SumIOk Tryz.prog tabs s:=Xh xt_ok Qxq (by kernel_rfl)
theorem QvJ:∀s∈Qt0,Ab.SumIOk Tryz.prog tabs s:=Xh xt_ok Qxr (by kernel_rfl)
theorem QyC:∀f,∀s∈QEk f,Ab.SumIOk Tryz.prog tabs s:=λf s hs=>by
 unfold QEk at hs;cases h:Nat.beq f 220 with
 | true=>
  rw[h,cond_true]at hs;simp only[List.mem_append]at hs;rcases hs with((hs | hs) | hs) | hs
  ·exact QvG s hs
  ·exact QvH s hs
  ·exact QvI s hs
  ·exact QvJ s hs
 | false=>
  rw[h,cond_false]at hs;exact QEu f s hs
theorem QGw:Ab.CallOk Tryz.prog kn1:=Ab.orKnown_ok xt_ok (Ab.byFn_ok tabs_ok tabs_low QyC)
theorem QvK:∀s∈Qt1,Ab.SumIOk Tryz.prog tabs s:=Xh QGw Qxs (by kernel_rfl)
theorem QyD:∀f,∀s∈QEl f,Ab.SumIOk Tryz.prog tabs s:=λf s hs=>by
 unfold QEl at hs;cases h:Nat.beq f 278 with
 | true=>
  rw[h,cond_true]at hs;exact QvK s hs
 | false=>
  rw[h,cond_false]at hs;exact QyC f s hs
theorem Qlb:Ab.CallOk Tryz.prog kn2:=Ab.orKnown_ok xt_ok (Ab.byFn_ok tabs_ok tabs_low QyD)
theorem QvL:∀s∈Qt2,Ab.SumIOk Tryz.prog tabs s:=Xh Qlb Qxt (by kernel_rfl)
theorem QvM:∀s∈Qt3,Ab.SumIOk Tryz.prog tabs s:=Xh Qlb Qxu (by kernel_rfl)
theorem QvN:∀s∈Qt4,Ab.SumIOk Tryz.prog tabs s:=Xh Qlb Qxv (by kernel_rfl)
theorem QvO:∀s∈Qt5,Ab.SumIOk Tryz.prog tabs s:=Xh Qlb Qxw (by kernel_rfl)
theorem QvP:∀s∈Qt6,Ab.SumIOk Tryz.prog tabs s:=Xh Qlb Qxx (by kernel_rfl)
theorem QvQ:∀s∈Qt7,Ab.SumIOk Tryz.prog tabs s:=Xh Qlb Qxy (by kernel_rfl)
theorem QvR:∀s∈Qt8,Ab.SumIOk Tryz.prog tabs s:=Xh Qlb Qxz (by kernel_rfl)
theorem QvS:∀s∈Qt9,Ab.SumIOk Tryz.prog tabs s:=Xh Qlb QxA (by kernel_rfl)
theorem QyE:∀f,∀s∈QEm f,Ab.SumIOk Tryz.prog tabs s:=λf s hs=>by
 unfold QEm at hs;cases h:Nat.beq f 217 with
 | true=>
  rw[h,cond_true]at hs;simp only[List.mem_append]at hs;rcases hs with((((((hs | hs) | hs) | hs) | hs) | hs) | hs) | hs
  ·exact QvL s hs
  ·exact QvM s hs
  ·exact QvN s hs
  ·exact QvO s hs
  ·exact QvP s hs
  ·exact QvQ s hs
  ·exact QvR s hs
  ·exact QvS s hs
 | false=>
  rw[h,cond_false]at hs;exact QyD f s hs
theorem QGx:Ab.CallOk Tryz.prog kn3:=Ab.orKnown_ok xt_ok (Ab.byFn_ok tabs_ok tabs_low QyE)
theorem all_sums3_0:∀s∈Qua,Ab.SumIOk Tryz.prog tabs s:=Xh QGx QxB (by kernel_rfl)
theorem QyF:∀f,∀s∈QEn f,Ab.SumIOk Tryz.prog tabs s:=λf s hs=>by
 unfold QEn at hs;cases h:Nat.beq f 133 with
 | true=>
  rw[h,cond_true]at hs;exact all_sums3_0 s hs
 | false=>
  rw[h,cond_false]at hs;exact QyE f s hs
theorem QGy:Ab.CallOk Tryz.prog kn4:=Ab.orKnown_ok xt_ok (Ab.byFn_ok tabs_ok tabs_low QyF)
theorem all_sums4_0:∀s∈Qub,Ab.SumIOk Tryz.prog tabs s:=Xh QGy QxC (by kernel_rfl)
theorem QyG:∀f,∀s∈QEo f,Ab.SumIOk Tryz.prog tabs s:=λf s hs=>by
 unfold QEo at hs;cases h:Nat.beq f 134 with
 | true=>
  rw[h,cond_true]at hs;exact all_sums4_0 s hs
 | false=>
  rw[h,cond_false]at hs;exact QyF f s hs
theorem QGz:Ab.CallOk Tryz.prog kn5:=Ab.orKnown_ok xt_ok (Ab.byFn_ok tabs_ok tabs_low QyG)
theorem all_sums5_0:∀s∈Quc,Ab.SumIOk Tryz.prog tabs s:=Xh QGz QxD (by kernel_rfl)
theorem QyH:∀f,∀s∈QEp f,Ab.SumIOk Tryz.prog tabs s:=λf s hs=>by
 unfold QEp at hs;cases h:Nat.beq f 135 with
 | true=>
  rw[h,cond_true]at hs;exact all_sums5_0 s hs
 | false=>
  rw[h,cond_false]at hs;exact QyG f s hs
theorem QGA:Ab.CallOk Tryz.prog kn6:=Ab.orKnown_ok xt_ok (Ab.byFn_ok tabs_ok tabs_low QyH)
theorem all_sums6_0:∀s∈Qud,Ab.SumIOk Tryz.prog tabs s:=Xh QGA QxE (by kernel_rfl)
theorem QyI:∀f,∀s∈QEq f,Ab.SumIOk Tryz.prog tabs s:=λf s hs=>by
 unfold QEq at hs;cases h:Nat.beq f 136 with
 | true=>
  rw[h,cond_true]at hs;exact all_sums6_0 s hs
 | false=>
  rw[h,cond_false]at hs;exact QyH f s hs
theorem QGB:Ab.CallOk Tryz.prog kn7:=Ab.orKnown_ok xt_ok (Ab.byFn_ok tabs_ok tabs_low QyI)
theorem all_sums7_0:∀s∈Que,Ab.SumIOk Tryz.prog tabs s:=Xh QGB QxF (by kernel_rfl)
theorem QyJ:∀f,∀s∈QEr f,Ab.SumIOk Tryz.prog tabs s:=λf s hs=>by
 unfold QEr at hs;cases h:Nat.beq f 137 with
 | true=>
  rw[h,cond_true]at hs;exact all_sums7_0 s hs
 | false=>
  rw[h,cond_false]at hs;exact QyI f s hs
theorem QGC:Ab.CallOk Tryz.prog kn8:=Ab.orKnown_ok xt_ok (Ab.byFn_ok tabs_ok tabs_low QyJ)
theorem all_sums8_0:∀s∈Quf,Ab.SumIOk Tryz.prog tabs s:=Xh QGC QxG (by kernel_rfl)
theorem QyK:∀f,∀s∈QEs f,Ab.SumIOk Tryz.prog tabs s:=λf s hs=>by
 unfold QEs at hs;cases h:Nat.beq f 138 with
 | true=>
  rw[h,cond_true]at hs;exact all_sums8_0 s hs
 | false=>
  rw[h,cond_false]at hs;exact QyJ f s hs
theorem QGD:Ab.CallOk Tryz.prog kn9:=Ab.orKnown_ok xt_ok (Ab.byFn_ok tabs_ok tabs_low QyK)
theorem all_sums9_0:∀s∈Qug,Ab.SumIOk Tryz.prog tabs s:=Xh QGD QxH (by kernel_rfl)
theorem QvT:∀f,∀s∈Qyy f,Ab.SumIOk Tryz.prog tabs s:=λf s hs=>by
 unfold Qyy at hs;cases h:Nat.beq f 44 with
 | true=>
  rw[h,cond_true]at hs;exact all_sums9_0 s hs
 | false=>
  rw[h,cond_false]at hs;exact QyK f s hs
theorem QEv:Ab.CallOk Tryz.prog QHy:=Ab.orKnown_ok xt_ok (Ab.byFn_ok tabs_ok tabs_low QvT)
theorem all_sums10_0:∀s∈Qrh,Ab.SumIOk Tryz.prog tabs s:=Xh QEv QvB (by kernel_rfl)
theorem QvU:∀f,∀s∈Qyz f,Ab.SumIOk Tryz.prog tabs s:=λf s hs=>by
 unfold Qyz at hs;cases h:Nat.beq f 45 with
 | true=>
  rw[h,cond_true]at hs;exact all_sums10_0 s hs
 | false=>
  rw[h,cond_false]at hs;exact QvT f s hs
theorem QEw:Ab.CallOk Tryz.prog QHz:=Ab.orKnown_ok xt_ok (Ab.byFn_ok tabs_ok tabs_low QvU)
theorem all_sums11_0:∀s∈Qri,Ab.SumIOk Tryz.prog tabs s:=Xh QEw QvC (by kernel_rfl)
theorem QvV:∀f,∀s∈QyA f,Ab.SumIOk Tryz.prog tabs s:=λf s hs=>by
 unfold QyA at hs;cases h:Nat.beq f 46 with
 | true=>
  rw[h,cond_true]at hs;exact all_sums11_0 s hs
 | false=>
  rw[h,cond_false]at hs;exact QvU f s hs
theorem QEx:Ab.CallOk Tryz.prog QHA:=Ab.orKnown_ok xt_ok (Ab.byFn_ok tabs_ok tabs_low QvV)
theorem all_sums12_0:∀s∈Qrj,Ab.SumIOk Tryz.prog tabs s:=Xh QEx QvD (by kernel_rfl)
theorem QvW:∀f,∀s∈QyB f,Ab.SumIOk Tryz.prog tabs s:=λf s hs=>by
 unfold QyB at hs;cases h:Nat.beq f 47 with
 | true=>
  rw[h,cond_true]at hs;exact all_sums12_0 s hs
 | false=>
  rw[h,cond_false]at hs;exact QvV f s hs
theorem QEy:Ab.CallOk Tryz.prog QHB:=Ab.orKnown_ok xt_ok (Ab.byFn_ok tabs_ok tabs_low QvW)
theorem all_sums13_0:∀s∈Qrk,Ab.SumIOk Tryz.prog tabs s:=Xh QEy QvE (by kernel_rfl)
theorem QCo:∀f,∀s∈QCl f,Ab.SumIOk Tryz.prog tabs s:=λf s hs=>by
 unfold QCl at hs;cases h:Nat.beq f 48 with
 | true=>
  rw[h,cond_true]at hs;exact all_sums13_0 s hs
 | false=>
  rw[h,cond_false]at hs;exact QvW f s hs
theorem QEz:Ab.CallOk Tryz.prog QHC:=Ab.orKnown_ok xt_ok (Ab.byFn_ok tabs_ok tabs_low QCo)
theorem all_sums14_0:∀s∈QvA,Ab.SumIOk Tryz.prog tabs s:=Xh QEz QvF (by kernel_rfl)
end Go.Proofs.YtfofbicfabokbaaGreatDoor.tab
