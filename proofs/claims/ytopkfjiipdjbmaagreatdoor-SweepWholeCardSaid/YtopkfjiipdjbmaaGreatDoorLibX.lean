import Derived.Test.YtopkfjiipdjbmaaGreatDoorCards
import Derived.Test.YtopkfjiipdjbmaaGreatDoorTie
import Derived.Test.YtopkfjiipdjbmaaGreatDoorLibS
import Derived.WalkKit
import Derived.ProofKit
import Derived.OpenShut
import Derived.Deep.DeepHandedRow
import Derived.Deep.DeepLaidRun
import Derived.Lib.LaidTab
import Derived.Lib.Space
import Derived.Lib.SpaceR
import Derived.Test.YtopkfjiipdjbmaaGreatDoorS0PA
import Derived.Test.YtopkfjiipdjbmaaGreatDoorS0PB
import Derived.Test.YtopkfjiipdjbmaaGreatDoorS0PC
set_option linter.defProp false
set_option linter.unusedVariables false
set_option maxRecDepth 100000
noncomputable section
namespace Go.Proofs.YtopkfjiipdjbmaaGreatDoor.tab
open Go.ChangeShapes Go.WideShapes Go.ChangeAt Go.RowKit
def own:ownKnob Tryz.prog.godebug=none:=by kernel_rfl
def tail {P:Program}{w:World}{x:String×DataW Unit}{l:List (String×DataW Unit)}{ab:List MemPlace}(h:DataW.LaidVars P w (x::l) ab):∃q,DataW.LaidVars P w l q:=by
 obtain⟨ad,aj,cs,ac,p,q,ag,ah,ai,ae,aa,_⟩:=h;exact⟨q,aa⟩
def QEW {W:World}{aa:String}{g t e n:Nat}{k:IntKind}{zs:List Int}{d:DataW Unit}{ao:List (String×DataW Unit)}{an:List MemPlace}(aj:Tryz.prog.globalNamed aa=some g)(ai:(Tryz.prog.globals[g]?).map (·.type)=some t)
  (ak:Tryz.prog.underlying t=some (.array n e)) (ag:Tryz.prog.underlying e=some (.int k)) (ab:Tryz.prog.cellsOf e=1) (ac:Tryz.prog.cellsOf t=n) (ae:d=Lib.tabData k zs)
  (h:DataW.LaidVars Tryz.prog W ((aa,d)::ao) an):Lib.TabIs Tryz.prog W aa k zs:=by
 subst ae;obtain⟨aq,ar,cs,ap,p,q,ah,al,am,ad,_,_⟩:=h;obtain rfl:=Option.some.inj (aj.symm.trans ah);obtain rfl:=Option.some.inj (ai.symm.trans al);unfold Lib.TabIs;rw[am,<- Lib.cells_of_tab ak ag ab ac ad]
structure QqK (W:World):Prop where
 t0:Lib.TabIs Tryz.prog W "strings.asciiSpace" .u8 (Qoj Rows.laid_strings_asciiSpace)
 t1:Lib.TabIs Tryz.prog W "internal/strconv.uint64pow10" .u64 (Qoj Rows.laid_internal_strconv_uint64pow10)
 t2:Lib.TabIs Tryz.prog W "math/bits.deBruijn64tab" .u8 (Qoj Rows.laid_math_bits_deBruijn64tab)
def Qkv {W:World}(h:laidMetH Tryz.prog Rows.sweepWholeRow.laid W):QqK W:=by
 have h:laidMet Tryz.prog Rows.sweepWholeRow.laid W:=h;obtain⟨aj,ac,_⟩:=h;obtain⟨_,aa⟩:=tail ac;obtain⟨_,ab⟩:=tail aa;obtain⟨_,ad⟩:=tail ab;obtain⟨_,ae⟩:=tail ad;obtain⟨_,ag⟩:=tail ae;obtain⟨_,ah⟩:=tail ag;obtain⟨_,ai⟩:=tail ah;exact⟨QEW (g:=1) (t:=253) (e:=5) (n:=256) (by kernel_rfl) (by kernel_rfl) (by kernel_rfl) (by kernel_rfl) (by kernel_rfl) (by kernel_rfl) (by kernel_rfl) ai,QEW (g:=0) (t:=213) (e:=99) (n:=20) (by kernel_rfl) (by kernel_rfl) (by kernel_rfl) (by kernel_rfl) (by kernel_rfl) (by kernel_rfl) (by kernel_rfl) ab,QEW (g:=3) (t:=318) (e:=5) (n:=64) (by kernel_rfl) (by kernel_rfl) (by kernel_rfl) (by kernel_rfl) (by kernel_rfl) (by kernel_rfl) (by kernel_rfl) aa⟩
def Qz3 {W:World}{ac:String}{g:Nat}{k:IntKind}{zs:List Int}(h:Lib.TabIs Tryz.prog W ac k zs)(ae:Tryz.prog.globalNamed ac=some g)(j:Nat)(v:Value)(aa:(zs.map (Value.int k))[j]? = some v):W.cell? ⟨g,j,none⟩=some v:=by
 rw[List.getElem?_map,Option.map_eq_some_iff]at aa;obtain⟨z,ab,rfl⟩:=aa;have ad:=(List.getElem?_eq_some_iff.1 ab).1;rw[h.cell ae j ad,List.getD,ab];rfl
def QEX {W:World}(h:QqK W):∀t∈tabs,∀ (j:Nat) v,t.c[j]? = some v->W.cell? ⟨t.id,j,none⟩=some v:=by
 intro t ab j v aa;simp only[tabs,List.mem_cons,List.not_mem_nil,or_false]at ab;rcases ab with rfl | rfl | rfl;·exact Qz3 h.t0 (by kernel_rfl) j v aa
 ·exact Qz3 h.t1 (by kernel_rfl) j v aa
 exact Qz3 h.t2 (by kernel_rfl) j v aa
def QHv {W:World}(h:QqK W):∀t∈tabs,t.id<W.heap.size:=by
 intro t aa;have ab:∃v,t.c[0]? = some v:=by
  simp only[tabs,List.mem_cons,List.not_mem_nil,or_false]at aa;rcases aa with rfl | rfl | rfl;·exact⟨.int .u8 0,by kernel_rfl⟩
  ·exact⟨.int .u64 1,by kernel_rfl⟩
  exact⟨.int .u8 0,by kernel_rfl⟩
 obtain⟨v,ac⟩:=ab;exact World.block_lt_of_cell? W ⟨t.id,0,none⟩ (QEX h t aa 0 v ac)
def tabs_ok:Ab.tabsOk tabs=true:=by kernel_rfl
def VU:DataW Unit->List Value
 | .lit (.int k z)=>[.int k z]
 | .lit (.string z)=>[.string ⟨z.toArray⟩]
 | _=>[]
def QpC:DataW Unit->List Value
 | .agg xs=>xs.flatMap VU
 | d=>VU d
def Qkt:DataW Unit->List Value
 | .agg xs=>xs.flatMap QpC
 | d=>VU d
noncomputable def Qok (os:Os):World:=
 let N:=(World.settled Tryz.prog os).heap.size
 let aa:=World.holding Tryz.prog os ⟨#[.cells #[.string ⟨#[118,97,108,117,101,32,111,117,116,32,111,102,32,114,97,110,103,101]⟩] 383,.cells #[.string ⟨#[105,110,118,97,108,105,100,32,115,121,110,116,97,120]⟩] 383,.cells (Lib.whiteT.map fun(z:Nat)=>Value.int .u16 (z:Int)).toArray 357,.cells #[.S (N+2) 7 7,.slice none 0 0,.Z 2] 354],#[],[]⟩
 let put (h:Array Obj) (g:Nat) (cs:Array Value):Array Obj:=h.modify g fun
  | .cells _ t ab=>.cells cs t ab
  | o=>o
 {aa with heap:=put (put (put (put (put (put (put (put (put (aa.heap) 2 (Qkt Rows.laid_math_bits_deBruijn32tab).toArray) 3 (Qkt Rows.laid_math_bits_deBruijn64tab).toArray) 0 (Qkt Rows.laid_internal_strconv_uint64pow10).toArray) 5 (Qkt Rows.laid_unicode_utf8_acceptRanges).toArray) 9 #[.iface 381 (.P (N+0))]) 8 #[.iface 381 (.P (N+1))]) 7 #[.P (N+3)]) 1 (Qkt Rows.laid_strings_asciiSpace).toArray) 4 (Qkt Rows.laid_unicode_utf8_first).toArray}
def laid_met (os:Os)(args:Array Value):laidMet Tryz.prog Rows.sweepWholeRow.laid ((Qok os).forCall (λ_ _=>0) ⟨#[],args,[]⟩).memory:=
 laidMet_of_run3 10 (by kernel_rfl) (by kernel_rfl) (by kernel_rfl)
def QJD:Ab.IsExt Tryz.prog 323 .count:=⟨Tryz.f323,Tryz.func323,by kernel_rfl,by kernel_rfl,by kernel_rfl,by kernel_rfl⟩
def QJE:Ab.IsExt Tryz.prog 318 .indexByte:=⟨Tryz.f318,Tryz.func318,by kernel_rfl,by kernel_rfl,by kernel_rfl,by kernel_rfl⟩
def QLf:Ab.IsExt Tryz.prog 96 .noEscape:=⟨Tryz.f96,Tryz.func96,by kernel_rfl,by kernel_rfl,by kernel_rfl,by kernel_rfl⟩
def Qhe:Ab.CallOk Tryz.prog (Ab.xknown xt):=Ab.xknown_ok λf k h=>by
 unfold xt at h;cases ab:Nat.beq f 323 with
 | true=>
  rw[ab]at h;cases h;obtain rfl:=Nat.eq_of_beq_eq_true ab;exact QJD
 | false=>
  rw[ab]at h;cases aa:Nat.beq f 318 with
  | true=>
   rw[aa]at h;cases h;obtain rfl:=Nat.eq_of_beq_eq_true aa;exact QJE
  | false=>
   rw[aa]at h;cases ac:Nat.beq f 96 with
   | true=>
    rw[ac]at h;cases h;obtain rfl:=Nat.eq_of_beq_eq_true ac;exact QLf
   | false=>
    rw[ac]at h;cases h
def tabs_low:∀t∈tabs,t.id<Tryz.prog.globals.size:=by
 have h:(tabs.all λt=>Nat.blt t.id Tryz.prog.globals.size)=true:=by kernel_rfl
 intro t aa;have:=List.all_eq_true.1 h t aa;simpa using this
def Xt {ab:Ab.CallF}(ad:Ab.CallOk Tryz.prog ab){l:List Ab.SumI}(h:YU ab l=true)(ac:(l.all λs=>Ab.entered Tryz.prog s.f)=true):∀s∈l,Ab.SumIOk Tryz.prog tabs s:=λs aa=>
 Ab.sumI_ok ad (List.all_eq_true.1 ac s aa) (List.all_eq_true.1 h s aa)
def QHw:∀f,∀s∈QLe f,Ab.SumIOk Tryz.prog tabs s:=λf s aa=>by cases aa
def QxK:∀s∈Qvy,Ab.SumIOk Tryz.prog tabs s:=Xt Qhe Qz4 (by kernel_rfl)
def QxL:∀s∈Qvz,Ab.SumIOk Tryz.prog tabs s:=Xt Qhe Qz5 (by kernel_rfl)
def QxM:∀s∈QvA,Ab.SumIOk Tryz.prog tabs s:=Xt Qhe Qz6 (by kernel_rfl)
def QxN:∀s∈QvB,Ab.SumIOk Tryz.prog tabs s:=Xt Qhe Qz7 (by kernel_rfl)
def QBo:∀f,∀s∈QHo f,Ab.SumIOk Tryz.prog tabs s:=λf s aa=>by
 unfold QHo at aa;cases h:Nat.beq f 143 with
 | true=>
  rw[h,cond_true]at aa;simp only[List.mem_append]at aa;rcases aa with((aa | aa) | aa) | aa;·exact QxK s aa
  ·exact QxL s aa
  ·exact QxM s aa
  exact QxN s aa
 | false=>
  rw[h,cond_false]at aa;exact QHw f s aa
def QJF:Ab.CallOk Tryz.prog kn1:=Ab.orKnown_ok Qhe (Ab.byFn_ok tabs_ok tabs_low QBo)
def QxO:∀s∈QvC,Ab.SumIOk Tryz.prog tabs s:=Xt QJF Qz8 (by kernel_rfl)
def QBp:∀f,∀s∈QHp f,Ab.SumIOk Tryz.prog tabs s:=λf s aa=>by
 unfold QHp at aa;cases h:Nat.beq f 247 with
 | true=>
  rw[h,cond_true]at aa;exact QxO s aa
 | false=>
  rw[h,cond_false]at aa;exact QBo f s aa
def QiI:Ab.CallOk Tryz.prog kn2:=Ab.orKnown_ok Qhe (Ab.byFn_ok tabs_ok tabs_low QBp)
def QxP:∀s∈QvD,Ab.SumIOk Tryz.prog tabs s:=Xt QiI Qz9 (by kernel_rfl)
def QxQ:∀s∈QvE,Ab.SumIOk Tryz.prog tabs s:=Xt QiI QAa (by kernel_rfl)
def QxR:∀s∈QvF,Ab.SumIOk Tryz.prog tabs s:=Xt QiI QAb (by kernel_rfl)
def QxS:∀s∈QvG,Ab.SumIOk Tryz.prog tabs s:=Xt QiI QAc (by kernel_rfl)
def QxT:∀s∈QvH,Ab.SumIOk Tryz.prog tabs s:=Xt QiI QAd (by kernel_rfl)
def QxU:∀s∈QvI,Ab.SumIOk Tryz.prog tabs s:=Xt QiI QAe (by kernel_rfl)
def QxV:∀s∈QvJ,Ab.SumIOk Tryz.prog tabs s:=Xt QiI QAf (by kernel_rfl)
def QxW:∀s∈QvK,Ab.SumIOk Tryz.prog tabs s:=Xt QiI QAg (by kernel_rfl)
def QBq:∀f,∀s∈QHq f,Ab.SumIOk Tryz.prog tabs s:=λf s aa=>by
 unfold QHq at aa;cases h:Nat.beq f 159 with
 | true=>
  rw[h,cond_true]at aa;simp only[List.mem_append]at aa;rcases aa with((((((aa | aa) | aa) | aa) | aa) | aa) | aa) | aa;·exact QxP s aa
  ·exact QxQ s aa
  ·exact QxR s aa
  ·exact QxS s aa
  ·exact QxT s aa
  ·exact QxU s aa
  ·exact QxV s aa
  exact QxW s aa
 | false=>
  rw[h,cond_false]at aa;exact QBp f s aa
def QJG:Ab.CallOk Tryz.prog kn3:=Ab.orKnown_ok Qhe (Ab.byFn_ok tabs_ok tabs_low QBq)
def all_sums3_0:∀s∈QvL,Ab.SumIOk Tryz.prog tabs s:=Xt QJG QAh (by kernel_rfl)
def QBr:∀f,∀s∈QHr f,Ab.SumIOk Tryz.prog tabs s:=λf s aa=>by
 unfold QHr at aa;cases h:Nat.beq f 123 with
 | true=>
  rw[h,cond_true]at aa;exact all_sums3_0 s aa
 | false=>
  rw[h,cond_false]at aa;exact QBq f s aa
def QJH:Ab.CallOk Tryz.prog kn4:=Ab.orKnown_ok Qhe (Ab.byFn_ok tabs_ok tabs_low QBr)
def all_sums4_0:∀s∈QvM,Ab.SumIOk Tryz.prog tabs s:=Xt QJH QAi (by kernel_rfl)
def QBs:∀f,∀s∈QHs f,Ab.SumIOk Tryz.prog tabs s:=λf s aa=>by
 unfold QHs at aa;cases h:Nat.beq f 124 with
 | true=>
  rw[h,cond_true]at aa;exact all_sums4_0 s aa
 | false=>
  rw[h,cond_false]at aa;exact QBr f s aa
def QJI:Ab.CallOk Tryz.prog kn5:=Ab.orKnown_ok Qhe (Ab.byFn_ok tabs_ok tabs_low QBs)
def all_sums5_0:∀s∈QvN,Ab.SumIOk Tryz.prog tabs s:=Xt QJI QAj (by kernel_rfl)
def QBt:∀f,∀s∈QHt f,Ab.SumIOk Tryz.prog tabs s:=λf s aa=>by
 unfold QHt at aa;cases h:Nat.beq f 125 with
 | true=>
  rw[h,cond_true]at aa;exact all_sums5_0 s aa
 | false=>
  rw[h,cond_false]at aa;exact QBs f s aa
def QJJ:Ab.CallOk Tryz.prog kn6:=Ab.orKnown_ok Qhe (Ab.byFn_ok tabs_ok tabs_low QBt)
def all_sums6_0:∀s∈QvO,Ab.SumIOk Tryz.prog tabs s:=Xt QJJ QAk (by kernel_rfl)
def QBu:∀f,∀s∈QHu f,Ab.SumIOk Tryz.prog tabs s:=λf s aa=>by
 unfold QHu at aa;cases h:Nat.beq f 126 with
 | true=>
  rw[h,cond_true]at aa;exact all_sums6_0 s aa
 | false=>
  rw[h,cond_false]at aa;exact QBt f s aa
def QJK:Ab.CallOk Tryz.prog kn7:=Ab.orKnown_ok Qhe (Ab.byFn_ok tabs_ok tabs_low QBu)
def all_sums7_0:∀s∈QvP,Ab.SumIOk Tryz.prog tabs s:=Xt QJK QAl (by kernel_rfl)
def QHx:∀f,∀s∈QJC f,Ab.SumIOk Tryz.prog tabs s:=λf s aa=>by
 unfold QJC at aa;cases h:Nat.beq f 127 with
 | true=>
  rw[h,cond_true]at aa;exact all_sums7_0 s aa
 | false=>
  rw[h,cond_false]at aa;exact QBu f s aa
def QJL:Ab.CallOk Tryz.prog kn8:=Ab.orKnown_ok Qhe (Ab.byFn_ok tabs_ok tabs_low QHx)
def all_sums8_0:∀s∈QBn,Ab.SumIOk Tryz.prog tabs s:=Xt QJL QAm (by kernel_rfl)
