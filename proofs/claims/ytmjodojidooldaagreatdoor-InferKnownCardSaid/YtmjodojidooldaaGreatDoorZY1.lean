/-
  A part of the proof of the tied card of usufructlaw18.InferKnown: ZzY1.
-/
import Derived.Test.YtmjodojidooldaaGreatDoorRows
import Derived.LaidByTextLater
import Derived.LaidOnce
import Derived.LaidMore
import Derived.ProofKit
noncomputable section
namespace Go.Proofs.YtmjodojidooldaaGreatDoor
open Go
set_option maxRecDepth 100000
theorem hd : ∀ os tape, varsDone Tryz.prog 400 (varsId Tryz.prog) os tape = true := fun _ _ => by kernel_rfl
end Go.Proofs.YtmjodojidooldaaGreatDoor
end

