/-
  A part of the proof of the tied card of usufructlaw18.InferKnown: ZzF8.
-/
import Derived.Test.YtmjodojidooldaaGreatDoorZT
noncomputable section
namespace Go.Uf
open Go Go.Proofs
set_option maxRecDepth 1000000
theorem k8 : orcOf 20 i8 (runF E2 900 (.call 4 a8 ⟨20, baseT gl⟩)) = some r8 := by kernel_rfl
end Go.Uf
end

