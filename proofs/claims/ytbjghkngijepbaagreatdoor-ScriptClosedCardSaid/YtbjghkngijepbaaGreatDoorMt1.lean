/- A closed fact of the tie of YtbjghkngijepbaaGreatDoor. -/
import Derived.Test.YtbjghkngijepbaaGreatDoorRows
import Derived.LaidByTextLater
import Derived.SevenTiedAt
namespace Go.Proofs.YtbjghkngijepbaaGreatDoor
open Go
theorem mt_a1 : Tryz.prog.worded (varsWordLater true) = true := by kernel_rfl
theorem mt_a2 : Tryz.prog.worded (varsWordLater !true) = false := by kernel_rfl
theorem mt_a3 : Tryz.prog.worded rootWordLater = true := by kernel_rfl
theorem mt_a4 : ([("internal/strconv.uint64pow10", Rows.laid_internal_strconv_uint64pow10), ("math/bits.deBruijn32tab", Rows.laid_math_bits_deBruijn32tab), ("math/bits.deBruijn64tab", Rows.laid_math_bits_deBruijn64tab), ("unicode/utf8.acceptRanges", Rows.laid_unicode_utf8_acceptRanges)] : List (String × DataW Unit)).map (fun x => Tryz.prog.kindOfLater x.1) = ([.data, .data, .data, .data] : List LaidKind).map some := by kernel_rfl
theorem mt_a5 : (Tryz.prog.funcNamed "gosem.cut.vars").isSome = true := by kernel_rfl
end Go.Proofs.YtbjghkngijepbaaGreatDoor
