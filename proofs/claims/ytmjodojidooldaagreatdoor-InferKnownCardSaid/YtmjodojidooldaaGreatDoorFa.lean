/-
  A part of the proof of the tied card of usufructlaw18.InferKnown: ZzF0, ZzF1, ZzF2, ZzF3, ZzFz.
-/
import Derived.Test.YtmjodojidooldaaGreatDoorZT
noncomputable section
namespace Go.Uf
open Go Go.Proofs
set_option maxRecDepth 1000000
theorem k0 : orcOf 20 i0 (runF E0 900 (.call 326 a0 ⟨20, baseT gl⟩)) = some r0 := by kernel_rfl
end Go.Uf
end

noncomputable section
namespace Go.Uf
open Go Go.Proofs
set_option maxRecDepth 1000000
theorem k1 : orcOf 20 i1 (runF E0 900 (.call 327 a1 ⟨20, baseT gl⟩)) = some r1 := by kernel_rfl
end Go.Uf
end

noncomputable section
namespace Go.Uf
open Go Go.Proofs
set_option maxRecDepth 1000000
theorem k2 : orcOf 20 i2 (runF E0 900 (.call 324 a2 ⟨20, baseT gl⟩)) = some r2 := by kernel_rfl
end Go.Uf
end

noncomputable section
namespace Go.Uf
open Go Go.Proofs
set_option maxRecDepth 1000000
theorem k3 : orcOf 20 i3 (runF E0 900 (.call 23 a3 ⟨20, baseT gl⟩)) = some r3 := by kernel_rfl
end Go.Uf
end

noncomputable section
namespace Go.Uf
open Go Go.Proofs
set_option maxRecDepth 1000000
theorem kz : isTrue (runF E3 900 (.call 3 [] ⟨20, baseT gl⟩)) = true := by kernel_rfl
end Go.Uf
end

