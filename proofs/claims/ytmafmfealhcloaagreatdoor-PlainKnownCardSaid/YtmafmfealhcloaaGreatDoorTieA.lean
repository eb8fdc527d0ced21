/-
  THE PROGRAM's TIE, its seven closed facts each a theorem of its own: the twelve listed variables of the library are laid by the program's own text.
-/
import Derived.Test.YtmafmfealhcloaaGreatDoorRows
import Derived.LaidByTextLater
import Derived.SevenTiedAt
import Derived.LaidSub
import Derived.LaidOnce
namespace Go.Proofs.YtmafmfealhcloaaGreatDoor
open Go
set_option maxRecDepth 100000
def laidA : List (String × DataW Unit) := [("math/bits.deBruijn32tab", Rows.laid_math_bits_deBruijn32tab), ("math/bits.deBruijn64tab", Rows.laid_math_bits_deBruijn64tab), ("internal/strconv.float32info", Rows.laid_internal_strconv_float32info), ("internal/strconv.float64info", Rows.laid_internal_strconv_float64info), ("internal/strconv.optimize", Rows.laid_internal_strconv_optimize), ("internal/strconv.powtab", Rows.laid_internal_strconv_powtab), ("internal/strconv.float64pow10", Rows.laid_internal_strconv_float64pow10), ("internal/strconv.float32pow10", Rows.laid_internal_strconv_float32pow10), ("internal/strconv.uint64pow10", Rows.laid_internal_strconv_uint64pow10), ("unicode/utf8.acceptRanges", Rows.laid_unicode_utf8_acceptRanges), ("strconv.ErrRange", Rows.laid_strconv_ErrRange), ("strconv.ErrSyntax", Rows.laid_strconv_ErrSyntax)]
theorem tieA1 : Tryz.prog.worded (varsWordLater true) = true := by kernel_rfl
theorem tieA2 : Tryz.prog.worded (varsWordLater !true) = false := by kernel_rfl
theorem tieA3 : Tryz.prog.worded rootWordLater = true := by kernel_rfl
theorem tieA4 : laidA.map (fun x => Tryz.prog.kindOfLater x.1) = ([.data, .data, .widerDeep, .widerDeep, .data, .data, .data, .data, .data, .data, .sentinel, .sentinel] : List LaidKind).map some := by kernel_rfl
theorem tieA5 : (Tryz.prog.funcNamed "gosem.cut.vars").isSome = true := by kernel_rfl
theorem tieA6 : varsNamedLaterB Tryz.prog (varsId Tryz.prog) laidA = true := by kernel_rfl
theorem tieA7 : ∀ os tape, doorLeaves Tryz.prog 101 8 65 laidA os tape = some (laidA.filter fun x => x.2.handleName?.isNone, (funcsListed laidA).map (·.2.funcsOut)) := fun _ _ => by kernel_rfl
theorem tieA : Tryz.prog.laidByTextLater laidA [.data, .data, .widerDeep, .widerDeep, .data, .data, .data, .data, .data, .data, .sentinel, .sentinel] true := Program.laidByTextLater_by_one 101 8 65 tieA1 tieA2 tieA3 tieA4 tieA5 tieA6 tieA7
end Go.Proofs.YtmafmfealhcloaaGreatDoor
