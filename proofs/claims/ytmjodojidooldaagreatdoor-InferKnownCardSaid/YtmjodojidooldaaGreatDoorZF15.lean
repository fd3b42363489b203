/-
  A part of the proof of the tied card of usufructlaw18.InferKnown: ZzF15.
-/
import Derived.Test.YtmjodojidooldaaGreatDoorZT
noncomputable section
namespace Go.Uf
open Go Go.Proofs
set_option maxRecDepth 1000000
theorem k15 : orcOf 20 i15 (runF N2 900 (.call 4 a15 ⟨20, baseT gl⟩)) = some r15 := by kernel_rfl
end Go.Uf
end

