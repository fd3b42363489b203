/-
  A part of the proof of the tied card of usufructlaw18.InferKnown: ZzF9.
-/
import Derived.Test.YtmjodojidooldaaGreatDoorZT
noncomputable section
namespace Go.Uf
open Go Go.Proofs
set_option maxRecDepth 1000000
theorem k9 : orcOf 20 i9 (runF E2 900 (.call 4 a9 ⟨20, baseT gl⟩)) = some r9 := by kernel_rfl
end Go.Uf
end

