/-
  A part of the proof of the tied card of usufructlaw18.InferKnown: ZzF11.
-/
import Derived.Test.YtmjodojidooldaaGreatDoorZT
noncomputable section
namespace Go.Uf
open Go Go.Proofs
set_option maxRecDepth 1000000
theorem k11 : orcOf 20 i11 (runF E2 900 (.call 4 a11 ⟨20, baseT gl⟩)) = some r11 := by kernel_rfl
end Go.Uf
end

