/-
  A part of the proof of the tied card of usufructlaw18.InferKnown: ZzD2.
-/
import Derived.Test.YtmjodojidooldaaGreatDoorZD0
import Derived.LaidByTextLater
import Derived.LaidOnce
import Derived.LaidMore
import Derived.ProofKit
noncomputable section
namespace Go.Proofs.YtmjodojidooldaaGreatDoor
open Go
set_option maxRecDepth 100000
theorem d2 : ∀ os, (DataW.laidRun Tryz.prog ((doorW os).forCall (fun _ _ => 0) ⟨#[], #[], []⟩).memory 8 (([("unicode/utf8.first", Rows.laid_unicode_utf8_first), ("unicode/utf8.acceptRanges", Rows.laid_unicode_utf8_acceptRanges), ("strings.asciiSpace", Rows.laid_strings_asciiSpace), ("unicode.White_Space", Rows.laid_unicode_White_Space), ("strconv.ErrSyntax", Rows.laid_strconv_ErrSyntax), ("strconv.ErrRange", Rows.laid_strconv_ErrRange), ("internal/strconv.uint64pow10", Rows.laid_internal_strconv_uint64pow10), ("math/bits.deBruijn32tab", Rows.laid_math_bits_deBruijn32tab), ("math/bits.deBruijn64tab", Rows.laid_math_bits_deBruijn64tab)] : List (String × DataW Unit)).map (·.1))).map (fun x => nodupBits 257 x.2 0) = some true := fun _ => by kernel_rfl
end Go.Proofs.YtmjodojidooldaaGreatDoor
end

