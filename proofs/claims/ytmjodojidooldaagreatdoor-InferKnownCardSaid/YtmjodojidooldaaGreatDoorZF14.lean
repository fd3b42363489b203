/-
  A part of the proof of the tied card of usufructlaw18.InferKnown: ZzF14.
-/
import Derived.Test.YtmjodojidooldaaGreatDoorZT
noncomputable section
namespace Go.Uf
open Go Go.Proofs
set_option maxRecDepth 1000000
theorem k14 : orcOf 20 i14 (runF E2 900 (.call 4 a14 ⟨20, baseT gl⟩)) = some r14 := by kernel_rfl
end Go.Uf
end

