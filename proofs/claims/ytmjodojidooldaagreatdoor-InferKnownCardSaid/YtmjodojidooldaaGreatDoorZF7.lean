/-
  A part of the proof of the tied card of usufructlaw18.InferKnown: ZzF7.
-/
import Derived.Test.YtmjodojidooldaaGreatDoorZT
noncomputable section
namespace Go.Uf
open Go Go.Proofs
set_option maxRecDepth 1000000
theorem k7 : orcOf 20 i7 (runF E1 900 (.call 7 a7 ⟨20, baseT gl⟩)) = some r7 := by kernel_rfl
end Go.Uf
end

