/-
  A part of the proof of the tied card of usufructlaw18.InferKnown: ZzF5.
-/
import Derived.Test.YtmjodojidooldaaGreatDoorZT
noncomputable section
namespace Go.Uf
open Go Go.Proofs
set_option maxRecDepth 1000000
theorem k5 : orcOf 20 i5 (runF E1 900 (.call 7 a5 ⟨20, baseT gl⟩)) = some r5 := by kernel_rfl
end Go.Uf
end

