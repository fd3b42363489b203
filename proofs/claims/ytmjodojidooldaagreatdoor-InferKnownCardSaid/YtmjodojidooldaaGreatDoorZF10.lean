/-
  A part of the proof of the tied card of usufructlaw18.InferKnown: ZzF10.
-/
import Derived.Test.YtmjodojidooldaaGreatDoorZT
noncomputable section
namespace Go.Uf
open Go Go.Proofs
set_option maxRecDepth 1000000
theorem k10 : orcOf 20 i10 (runF E2 900 (.call 4 a10 ⟨20, baseT gl⟩)) = some r10 := by kernel_rfl
end Go.Uf
end

