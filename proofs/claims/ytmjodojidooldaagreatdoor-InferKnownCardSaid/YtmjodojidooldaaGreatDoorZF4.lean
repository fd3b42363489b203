/-
  A part of the proof of the tied card of usufructlaw18.InferKnown: ZzF4.
-/
import Derived.Test.YtmjodojidooldaaGreatDoorZT
noncomputable section
namespace Go.Uf
open Go Go.Proofs
set_option maxRecDepth 1000000
theorem k4 : orcOf 20 i4 (runF E1 900 (.call 7 a4 ⟨20, baseT gl⟩)) = some r4 := by kernel_rfl
end Go.Uf
end

