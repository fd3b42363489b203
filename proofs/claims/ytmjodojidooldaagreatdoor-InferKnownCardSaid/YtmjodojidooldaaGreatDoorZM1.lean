/-
  A part of the proof of the tied card of usufructlaw18.InferKnown: ZzM1.
-/
import Derived.Test.YtmjodojidooldaaGreatDoorZT
noncomputable section
namespace Go.Uf
open Go Go.Proofs
set_option maxRecDepth 1000000
theorem q1 : m1.told (runF N1 900 (.call 15 m1.args ⟨m1.base, layP m1.pre⟩)) = true := by kernel_rfl
end Go.Uf
end

