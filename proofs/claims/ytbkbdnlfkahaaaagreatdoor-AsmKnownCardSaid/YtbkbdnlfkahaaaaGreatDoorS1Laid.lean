/- What the rows' lists give: the cells of the tables that are read; a world that holds all listed variables. -/
import Derived.Test.YtbkbdnlfkahaaaaGreatDoorCards
import Derived.LaidByTextLater
import Derived.SevenTiedAt
import Derived.Test.YtbkbdnlfkahaaaaGreatDoorS0Sums
import Derived.WalkKit
import Derived.ProofKit
import Derived.OpenShut
import Derived.Deep.DeepHandedRow
import Derived.Deep.DeepLaidRun
import Derived.Lib.LaidTab
import Derived.Lib.Space
import Derived.Lib.SpaceR
set_option linter.unusedVariables false
set_option maxRecDepth 100000
noncomputable section
namespace Go.Proofs.YtbkbdnlfkahaaaaGreatDoor.tab
open Go.ChangeShapes Go.WideShapes Go.ChangeAt Go.RowKit
theorem own:ownKnob Tryz.prog.godebug=none:=by kernel_rfl
theorem tail {P:Program} {w:World} {x:String×DataW Unit} {l:List (String×DataW Unit)} {ps:List MemPlace} (h:DataW.LaidVars P w (x::l) ps):∃q,DataW.LaidVars P w l q:=by
 obtain⟨g',t',cs,fuel,p,q,hg',ht',hvar,hd,h1,_⟩:=h;exact⟨q,h1⟩
theorem QjC {W:World} {name:String} {g t e n:Nat} {k:IntKind} {zs:List Int} {d:DataW Unit} {rest:List (String×DataW Unit)} {ps:List MemPlace} (hn:Tryz.prog.globalNamed name=some g) (hgt:(Tryz.prog.globals[g]?).map (·.type)=some t)
  (ht:Tryz.prog.underlying t=some (.array n e)) (he:Tryz.prog.underlying e=some (.int k)) (hce:Tryz.prog.cellsOf e=1) (hct:Tryz.prog.cellsOf t=n) (hd0:d=Lib.tabData k zs)
  (h:DataW.LaidVars Tryz.prog W ((name,d)::rest) ps):Lib.TabIs Tryz.prog W name k zs:=by
 subst hd0;obtain⟨g',t',cs,fuel,p,q,hg',ht',hvar,hd,_,_⟩:=h;obtain rfl:=Option.some.inj (hn.symm.trans hg');obtain rfl:=Option.some.inj (hgt.symm.trans ht');unfold Lib.TabIs;rw[hvar,<- Lib.cells_of_tab ht he hce hct hd]
theorem G4 {H:Type} {enc:TypeId×Value->H} {P:Program} {w:World} {base:Nat} {sp:Nat->Bool} {held:Bool} {fuel:Nat} {t e:TypeId} {n:Nat} {cs:List Value} {zs:List (List UInt8)} {p:List MemPlace}
  (ht:P.underlying t=some (.array n e)) (he:P.underlying e=some .string) (hce:P.cellsOf e=1) (hct:P.cellsOf t=n)
  (h:DataW.trod enc P w base sp held fuel t cs=some (.agg (zs.map λz=>.lit (.string z)),p)):cs=zs.map λz=>Value.string ⟨z.toArray⟩:=by
 cases fuel with
 | zero=>simp[DataW.trod]at h
 | succ fuel=>
  simp only[DataW.trod,ht,hce,hct,Nat.mul_one]at h;split at h
  ·rename_i hl;obtain⟨xs,hm,hx⟩:=Option.map_eq_some_iff.1 h;have hxs:xs.map (·.1)=zs.map λz=>(DataW.lit (.string z):DataW H):=by
    have:=congrArg Prod.fst hx;simpa using this
   have hxl:xs.length=n:=by simpa using Lib.mapM_length hm
   have hzl:zs.length=n:=by
    have:=congrArg List.length hxs;simp at this;omega
   apply List.ext_getElem?;intro i
   by_cases hi:i<n
   ·obtain⟨b,hb,hf⟩:=Lib.mapM_at hm i i (by simp[hi]);obtain⟨z,hc,rfl,_⟩:=DataW.trod_string he hf;have h1:cs[i]? = some (.string z):=by
     have:=congrArg (·[0]?) hc;simpa[List.getElem?_take,List.getElem?_drop] using this
    have h2:(xs.map (·.1))[i]? = some (DataW.lit (.string z.data.toList):DataW H):=by simp[hb]
    rw[hxs]at h2;simp only[List.getElem?_map,Option.map_eq_some_iff,DataW.lit.injEq,Lit.string.injEq]at h2;obtain⟨z',hz',rfl⟩:=h2;simp[h1,hz']
   ·rw[List.getElem?_eq_none (by omega),List.getElem?_eq_none (by simp;omega)]
  ·cases h
theorem Qj9 {W:World} {name:String} {g t e n:Nat} {zs:List (List UInt8)} {d:DataW Unit} {rest:List (String×DataW Unit)} {ps:List MemPlace} (hn:Tryz.prog.globalNamed name=some g) (hgt:(Tryz.prog.globals[g]?).map (·.type)=some t)
  (ht:Tryz.prog.underlying t=some (.array n e)) (he:Tryz.prog.underlying e=some .string) (hce:Tryz.prog.cellsOf e=1) (hct:Tryz.prog.cellsOf t=n) (hd0:d=.agg (zs.map λz=>.lit (.string z)))
  (h:DataW.LaidVars Tryz.prog W ((name,d)::rest) ps):W.var? Tryz.prog name=some (zs.map λz=>Value.string ⟨z.toArray⟩).toArray:=by
 subst hd0;obtain⟨g',t',cs,fuel,p,q,hg',ht',hvar,hd,_,_⟩:=h;obtain rfl:=Option.some.inj (hn.symm.trans hg');obtain rfl:=Option.some.inj (hgt.symm.trans ht');rw[hvar,<- G4 ht he hce hct hd]
theorem Qka {W:World} {name:String} {g:Nat} {l:List Value} (h:W.var? Tryz.prog name=some l.toArray) (hn:Tryz.prog.globalNamed name=some g) (j:Nat) (v:Value) (hj:l[j]? = some v):W.cell? ⟨g,j,none⟩=some v:=by
 have hl:=(List.getElem?_eq_some_iff.1 hj).1;have:=World.var?_cell hn h j;have h2:l[j]=v:=(List.getElem?_eq_some_iff.1 hj).2;simpa[hl,h2] using this
structure KO (W:World):Prop where
 t0:Lib.TabIs Tryz.prog W "strings.asciiSpace" .u8 (V7 Rows.laid_strings_asciiSpace)
 t1:Lib.TabIs Tryz.prog W "math/bits.deBruijn64tab" .u8 (V7 Rows.laid_math_bits_deBruijn64tab)
 t2:W.var? Tryz.prog "linotype/token.signs" = some ((Qw Rows.laid_linotype_token_signs).map λz=>Value.string ⟨z.toArray⟩).toArray
theorem Y9 {W:World} (h:laidMetH Tryz.prog Rows.asmKnownRow.laid W):KO W:=by
 have h:laidMet Tryz.prog Rows.asmKnownRow.laid W:=h;obtain⟨ps,h0,_⟩:=h;obtain⟨_,h1⟩:=tail h0;obtain⟨_,h2⟩:=tail h1;obtain⟨_,h3⟩:=tail h2;obtain⟨_,h4⟩:=tail h3;obtain⟨_,h5⟩:=tail h4;obtain⟨_,h6⟩:=tail h5;obtain⟨_,h7⟩:=tail h6;obtain⟨_,h8⟩:=tail h7;obtain⟨_,h9⟩:=tail h8;exact⟨QjC (g:=5) (t:=383) (e:=5) (n:=256) (by kernel_rfl) (by kernel_rfl) (by kernel_rfl) (by kernel_rfl) (by kernel_rfl) (by kernel_rfl) (by kernel_rfl) h3,QjC (g:=11) (t:=559) (e:=5) (n:=64) (by kernel_rfl) (by kernel_rfl) (by kernel_rfl) (by kernel_rfl) (by kernel_rfl) (by kernel_rfl) (by kernel_rfl) h9,Qj9 (g:=0) (t:=308) (e:=9) (n:=19) (by kernel_rfl) (by kernel_rfl) (by kernel_rfl) (by kernel_rfl) (by kernel_rfl) (by kernel_rfl) (by kernel_rfl) h2⟩
theorem Qgt {W:World} {name:String} {g:Nat} {k:IntKind} {zs:List Int} (h:Lib.TabIs Tryz.prog W name k zs) (hn:Tryz.prog.globalNamed name=some g) (j:Nat) (v:Value) (hj:(zs.map (Value.int k))[j]? = some v):W.cell? ⟨g,j,none⟩=some v:=by
 rw[List.getElem?_map,Option.map_eq_some_iff]at hj;obtain⟨z,hz,rfl⟩:=hj;have hl:=(List.getElem?_eq_some_iff.1 hz).1;rw[h.cell hn j hl,List.getD,hz];rfl
theorem Qgu {W:World} (h:KO W):∀t∈tabs,∀ (j:Nat) v,t.c[j]? = some v->W.cell? ⟨t.id,j,none⟩=some v:=by
 intro t ht j v hj;simp only[tabs,List.mem_cons,List.not_mem_nil,or_false]at ht;rcases ht with rfl | rfl | rfl
 ·exact Qgt h.t0 (by kernel_rfl) j v hj
 ·exact Qgt h.t1 (by kernel_rfl) j v hj
 ·exact Qka h.t2 (by kernel_rfl) j v hj
theorem QiH {W:World} (h:KO W):∀t∈tabs,t.id<W.heap.size:=by
 intro t ht;have h0:∃v,t.c[0]? = some v:=by
  simp only[tabs,List.mem_cons,List.not_mem_nil,or_false]at ht;rcases ht with rfl | rfl | rfl
  ·exact⟨.int .u8 0,by kernel_rfl⟩
  ·exact⟨.int .u8 0,by kernel_rfl⟩
  ·exact⟨.string ⟨#[36,36]⟩,by kernel_rfl⟩
 obtain⟨v,hv⟩:=h0;exact World.block_lt_of_cell? W ⟨t.id,0,none⟩ (Qgu h t ht 0 v hv)
theorem tabs_ok:Ab.tabsOk tabs=true:=by kernel_rfl
def Qgv:DataW Unit->List Value
 | .lit (.int k z)=>[.int k z]
 | .lit (.string z)=>[.string ⟨z.toArray⟩]
 | _=>[]
def Qk2:DataW Unit->List Value
 | .agg xs=>xs.flatMap Qgv
 | d=>Qgv d
def Gm:DataW Unit->List Value
 | .agg xs=>xs.flatMap Qk2
 | d=>Qgv d
noncomputable def JJ (os:Os):World:=
 let N:=(World.settled Tryz.prog os).heap.size
 let w0:=World.holding Tryz.prog os ⟨#[.cells (Lib.whiteT.map fun(z:Nat)=>Value.int .u16 (z:Int)).toArray 503,.cells #[.slice (some ⟨N+0,0,none⟩) 7 7,.slice none 0 0,.int .i64 2] 500,.cells #[.string ⟨#[105,110,118,97,108,105,100,32,115,121,110,116,97,120]⟩] 549,.cells #[.string ⟨#[118,97,108,117,101,32,111,117,116,32,111,102,32,114,97,110,103,101]⟩] 549],#[],[]⟩
 let put (h:Array Obj) (g:Nat) (cs:Array Value):Array Obj:=h.modify g fun
  | .cells _ t frozen=>.cells cs t frozen
  | o=>o
 {w0 with heap:=put (put (put (put (put (put (put (put (put (put (w0.heap) 1 (Gm Rows.laid_unicode_utf8_first).toArray) 2 (Gm Rows.laid_unicode_utf8_acceptRanges).toArray) 0 (Gm Rows.laid_linotype_token_signs).toArray) 5 (Gm Rows.laid_strings_asciiSpace).toArray) 6 #[.pointer (some ⟨N+1,0,none⟩)]) 7 #[.iface 547 (.pointer (some ⟨N+2,0,none⟩))]) 8 #[.iface 547 (.pointer (some ⟨N+3,0,none⟩))]) 9 (Gm Rows.laid_internal_strconv_uint64pow10).toArray) 10 (Gm Rows.laid_math_bits_deBruijn32tab).toArray) 11 (Gm Rows.laid_math_bits_deBruijn64tab).toArray}
theorem laid_met (os:Os) (args:Array Value):laidMet Tryz.prog Rows.asmKnownRow.laid ((JJ os).forCall (λ_ _=>0) ⟨#[],args,[]⟩).memory:=
 laidMet_of_run3 10 (by kernel_rfl) (by kernel_rfl) (by kernel_rfl)
end Go.Proofs.YtbkbdnlfkahaaaaGreatDoor.tab
