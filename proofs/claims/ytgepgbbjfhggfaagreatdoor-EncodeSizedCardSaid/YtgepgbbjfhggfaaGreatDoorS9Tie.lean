/- The listed variables are tied to the program's text, by one run of their initialisers. -/
import Derived.Test.YtgepgbbjfhggfaaGreatDoorRows
import Derived.LaidByTextLater
import Derived.LaidOnce
import Derived.SevenTiedAt
set_option maxRecDepth 100000
noncomputable section
namespace Go.Proofs.YtgepgbbjfhggfaaGreatDoor.tie1
open Go
theorem Qef:Tryz.pinned.checked.prog.pinnedFits "unicode/utf8.first" = true:=by kernel_rfl
theorem QyM:Tryz.pinned.checked.prog.headLifts.contains "ownunsafe" = false:=by kernel_rfl
theorem QJT:Tryz.pinned.checked.prog.listedFits [("unicode/utf8.first",Rows.laid_unicode_utf8_first),("unicode/utf8.acceptRanges",Rows.laid_unicode_utf8_acceptRanges),("strings.asciiSpace",Rows.laid_strings_asciiSpace),("unicode.White_Space",Rows.laid_unicode_White_Space),("strconv.ErrSyntax",Rows.laid_strconv_ErrSyntax),("strconv.ErrRange",Rows.laid_strconv_ErrRange),("internal/strconv.uint64pow10",Rows.laid_internal_strconv_uint64pow10),("math/bits.deBruijn32tab",Rows.laid_math_bits_deBruijn32tab),("math/bits.deBruijn64tab",Rows.laid_math_bits_deBruijn64tab)]=true:=by
 unfold Program.listedFits;rw[QyM]
 kernel_rfl
def QyN:List (String×DataW Unit):=[("unicode/utf8.acceptRanges",Rows.laid_unicode_utf8_acceptRanges),("strings.asciiSpace",Rows.laid_strings_asciiSpace),("unicode.White_Space",Rows.laid_unicode_White_Space),("strconv.ErrSyntax",Rows.laid_strconv_ErrSyntax),("strconv.ErrRange",Rows.laid_strconv_ErrRange),("internal/strconv.uint64pow10",Rows.laid_internal_strconv_uint64pow10),("math/bits.deBruijn32tab",Rows.laid_math_bits_deBruijn32tab),("math/bits.deBruijn64tab",Rows.laid_math_bits_deBruijn64tab)]
theorem t1:Program.worded Tryz.prog (varsWordLater true)=true:=by kernel_rfl
theorem t2:Program.worded Tryz.prog (varsWordLater !true)=false:=by kernel_rfl
theorem t3:Program.worded Tryz.prog rootWordLater=true:=by kernel_rfl
theorem t4:QyN.map (λx=>Program.kindOfLater Tryz.prog x.1)=([.data,.data,.listed,.sentinel,.sentinel,.data,.data,.data]:List LaidKind).map some:=by kernel_rfl
theorem t5:(Program.funcNamed Tryz.prog "gosem.cut.vars").isSome=true:=by kernel_rfl
theorem t6:varsNamedLaterB Tryz.prog (varsId Tryz.prog) QyN=true:=by kernel_rfl
theorem t7 (os:Os)(tape:Tape):doorLeaves Tryz.prog 96 8 257 QyN os tape=some (QyN.filter λx=>x.2.handleName?.isNone,(funcsListed QyN).map (·.2.funcsOut)):=by kernel_rfl
theorem tie:Tryz.prog.laidByTextLater [("unicode/utf8.acceptRanges",Rows.laid_unicode_utf8_acceptRanges),("strings.asciiSpace",Rows.laid_strings_asciiSpace),("unicode.White_Space",Rows.laid_unicode_White_Space),("strconv.ErrSyntax",Rows.laid_strconv_ErrSyntax),("strconv.ErrRange",Rows.laid_strconv_ErrRange),("internal/strconv.uint64pow10",Rows.laid_internal_strconv_uint64pow10),("math/bits.deBruijn32tab",Rows.laid_math_bits_deBruijn32tab),("math/bits.deBruijn64tab",Rows.laid_math_bits_deBruijn64tab)] [.data,.data,.listed,.sentinel,.sentinel,.data,.data,.data] true:=
 Program.laidByTextLater_by_one 96 8 257 t1 t2 t3 t4 t5 t6 t7
theorem encodeSized_row_tie:Rows.encodeSizedRow.laidByTextAt .later Tryz.pinned [.pinned,.data,.data,.listed,.sentinel,.sentinel,.data,.data,.data] true:=
 OpenClaim.laidByTextAt_pinned rfl rfl tie rfl rfl rfl rfl (λy q _e=>by
  simp only[Rows.encodeSizedRow,List.zip_cons_cons,List.zip_nil_right,List.mem_cons,List.mem_nil_iff,or_false]at q;rcases q with rfl | rfl | rfl | rfl | rfl | rfl | rfl | rfl | rfl
  ·exact⟨Qef,by kernel_rfl⟩
  ·cases _e
  ·cases _e
  ·cases _e
  ·cases _e
  ·cases _e
  ·cases _e
  ·cases _e
  ·cases _e) QJT
end Go.Proofs.YtgepgbbjfhggfaaGreatDoor.tie1
