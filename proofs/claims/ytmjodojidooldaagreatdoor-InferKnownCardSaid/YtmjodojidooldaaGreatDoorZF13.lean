/-
  A part of the proof of the tied card of usufructlaw18.InferKnown: ZzF13.
-/
import Derived.Test.YtmjodojidooldaaGreatDoorZT
noncomputable section
namespace Go.Uf
open Go Go.Proofs
set_option maxRecDepth 1000000
theorem k13 : orcOf 20 i13 (runF E2 900 (.call 4 a13 ⟨20, baseT gl⟩)) = some r13 := by kernel_rfl
end Go.Uf
end

