/-
  A part of the proof of the tied card of usufructlaw18.InferKnown: ZzJ5.
-/
import Derived.Test.YtmjodojidooldaaGreatDoorRows
import Derived.SevenTiedAt
import Derived.ProofKit
import Derived.Stop.Joined
import Derived.JoinedOf
noncomputable section
namespace Go.Proofs.YtmjodojidooldaaGreatDoor
open Go
set_option maxRecDepth 100000
theorem j12 : (Rows.inferKnownRow.named == Tryz.pinned.checked.prog.varsNamed 3) = true := by kernel_rfl
end Go.Proofs.YtmjodojidooldaaGreatDoor
end

