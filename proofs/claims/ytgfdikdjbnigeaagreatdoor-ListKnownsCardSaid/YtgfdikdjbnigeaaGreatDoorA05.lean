/- Which functions there are is as the document says: the card of ListKnowns holds: for every name and number, the listed tables being as the program's text lays them. (A part of the way there: TieS and what follows.) -/
import Derived.Test.YtgfdikdjbnigeaaGreatDoorA04
import Derived.Test.YtgfdikdjbnigeaaGreatDoorRows
import Derived.LaidByTextLater
import Derived.SevenTiedAt
set_option linter.all false
set_option linter.deprecated false
namespace Go.Proofs.YtgfdikdjbnigeaaGreatDoor
open Go
theorem pin_laid_unicode_utf8_first : Tryz.pinned.checked.prog.pinnedFits "unicode/utf8.first" = true := by kernel_rfl
theorem noOwnUnsafe : Tryz.pinned.checked.prog.headLifts.contains "ownunsafe" = false := by kernel_rfl
theorem fits1 : Tryz.pinned.checked.prog.listedFits [("internal/strconv.uint64pow10", Rows.laid_internal_strconv_uint64pow10), ("math/bits.deBruijn32tab", Rows.laid_math_bits_deBruijn32tab), ("math/bits.deBruijn64tab", Rows.laid_math_bits_deBruijn64tab), ("unicode/utf8.first", Rows.laid_unicode_utf8_first), ("unicode/utf8.acceptRanges", Rows.laid_unicode_utf8_acceptRanges), ("strconv.ErrSyntax", Rows.laid_strconv_ErrSyntax), ("strconv.ErrRange", Rows.laid_strconv_ErrRange), ("bytes.ErrTooLarge", Rows.laid_bytes_ErrTooLarge)] = true := by
  unfold Program.listedFits
  rw [noOwnUnsafe]
  kernel_rfl
def LL : List (String × DataW Unit) := [("internal/strconv.uint64pow10", Rows.laid_internal_strconv_uint64pow10), ("math/bits.deBruijn32tab", Rows.laid_math_bits_deBruijn32tab), ("math/bits.deBruijn64tab", Rows.laid_math_bits_deBruijn64tab), ("unicode/utf8.acceptRanges", Rows.laid_unicode_utf8_acceptRanges), ("strconv.ErrSyntax", Rows.laid_strconv_ErrSyntax), ("strconv.ErrRange", Rows.laid_strconv_ErrRange), ("bytes.ErrTooLarge", Rows.laid_bytes_ErrTooLarge)]
def KK : List LaidKind := [.data, .data, .data, .data, .sentinel, .sentinel, .sentinel]
theorem g1 : Tryz.prog.worded (varsWordLater true) = true := by kernel_rfl
theorem g2 : Tryz.prog.worded (varsWordLater !true) = false := by kernel_rfl
theorem g3 : Tryz.prog.worded rootWordLater = true := by kernel_rfl
theorem g4 : LL.map (fun x => Tryz.prog.kindOfLater x.1) = KK.map some := by kernel_rfl
theorem g5 : (Tryz.prog.funcNamed "gosem.cut.vars").isSome = true := by kernel_rfl
theorem g6 : varsNamedLaterB Tryz.prog (varsId Tryz.prog) LL = true := by kernel_rfl
theorem g7 : ∀ os tape, varsDone Tryz.prog 400 (varsId Tryz.prog) os tape = true := fun _ _ => by kernel_rfl
theorem g8 : ∀ os tape, (DataW.laidRun Tryz.prog (varsWorld Tryz.prog 400 (varsId Tryz.prog) os tape).memory 8 (LL.map (·.1))).map (·.1) = some LL := fun _ _ => by kernel_rfl
theorem g9 : ∀ os tape, (DataW.laidRun Tryz.prog (varsWorld Tryz.prog 400 (varsId Tryz.prog) os tape).memory 8 (LL.map (·.1))).map (fun x => decide x.2.Nodup && laidRowsB Tryz.prog (varsWorld Tryz.prog 400 (varsId Tryz.prog) os tape).memory x.2) = some true := fun _ _ => by kernel_rfl
end Go.Proofs.YtgfdikdjbnigeaaGreatDoor
