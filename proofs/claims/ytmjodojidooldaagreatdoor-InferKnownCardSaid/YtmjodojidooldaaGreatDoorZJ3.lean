/-
  A part of the proof of the tied card of usufructlaw18.InferKnown: ZzJ3.
-/
import Derived.Test.YtmjodojidooldaaGreatDoorRows
import Derived.SevenTiedAt
import Derived.ProofKit
import Derived.Stop.Joined
import Derived.JoinedOf
noncomputable section
namespace Go.Proofs.YtmjodojidooldaaGreatDoor
open Go
set_option maxRecDepth 100000
theorem j10 : (Rows.inferKnownRow.unfollowed == Tryz.pinned.checked.prog.unfollowed 3) = true := by kernel_rfl
end Go.Proofs.YtmjodojidooldaaGreatDoor
end

