/-
  A part of the proof of the tied card of usufructlaw18.InferKnown: ZzF12.
-/
import Derived.Test.YtmjodojidooldaaGreatDoorZT
noncomputable section
namespace Go.Uf
open Go Go.Proofs
set_option maxRecDepth 1000000
theorem k12 : orcOf 20 i12 (runF E2 900 (.call 4 a12 ⟨20, baseT gl⟩)) = some r12 := by kernel_rfl
end Go.Uf
end

