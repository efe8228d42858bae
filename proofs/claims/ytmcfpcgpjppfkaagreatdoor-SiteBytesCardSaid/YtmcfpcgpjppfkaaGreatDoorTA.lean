/- The tie of the listed variables to the program's text: the words, the kinds. Conditions: none. -/
import Derived.Test.YtmcfpcgpjppfkaaGreatDoorRows
import Derived.LaidOnce
import Derived.KernelRfl
namespace Go.Proofs.YtmcfpcgpjppfkaaGreatDoor
open Go
set_option maxRecDepth 100000
def tieLaid : List (String × DataW Unit) := [("strings.asciiSpace", Rows.laid_strings_asciiSpace), ("unicode/utf8.acceptRanges", Rows.laid_unicode_utf8_acceptRanges), ("unicode.White_Space", Rows.laid_unicode_White_Space), ("strconv.ErrSyntax", Rows.laid_strconv_ErrSyntax), ("strconv.ErrRange", Rows.laid_strconv_ErrRange), ("internal/strconv.uint64pow10", Rows.laid_internal_strconv_uint64pow10), ("math/bits.deBruijn32tab", Rows.laid_math_bits_deBruijn32tab), ("math/bits.deBruijn64tab", Rows.laid_math_bits_deBruijn64tab)]
theorem tie_w : Tryz.prog.worded (varsWordLater true) = true := by kernel_rfl
theorem tie_w2 : Tryz.prog.worded (varsWordLater !true) = false := by kernel_rfl
theorem tie_root : Tryz.prog.worded rootWordLater = true := by kernel_rfl
theorem tie_g : (Tryz.prog.funcNamed "gosem.cut.vars").isSome = true := by kernel_rfl
theorem tie_k : tieLaid.map (fun x => Tryz.prog.kindOfLater x.1) = ([.data, .data, .listed, .sentinel, .sentinel, .data, .data, .data] : List LaidKind).map some := by kernel_rfl
end Go.Proofs.YtmcfpcgpjppfkaaGreatDoor
