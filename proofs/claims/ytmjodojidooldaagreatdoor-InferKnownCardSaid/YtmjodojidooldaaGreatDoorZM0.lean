/-
  A part of the proof of the tied card of usufructlaw18.InferKnown: ZzM0.
-/
import Derived.Test.YtmjodojidooldaaGreatDoorZT
noncomputable section
namespace Go.Uf
open Go Go.Proofs
set_option maxRecDepth 1000000
theorem q0 : m0.told (runF N0 900 (.call 37 m0.args ⟨m0.base, layP m0.pre⟩)) = true := by kernel_rfl
end Go.Uf
end

