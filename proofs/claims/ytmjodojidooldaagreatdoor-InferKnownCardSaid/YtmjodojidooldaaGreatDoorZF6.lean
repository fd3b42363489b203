/-
  A part of the proof of the tied card of usufructlaw18.InferKnown: ZzF6.
-/
import Derived.Test.YtmjodojidooldaaGreatDoorZT
noncomputable section
namespace Go.Uf
open Go Go.Proofs
set_option maxRecDepth 1000000
theorem k6 : orcOf 20 i6 (runF E1 900 (.call 7 a6 ⟨20, baseT gl⟩)) = some r6 := by kernel_rfl
end Go.Uf
end

