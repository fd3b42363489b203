/-
  A part of the proof of the tied card of usufructlaw18.InferKnown: ZzJ0.
-/
import Derived.Test.YtmjodojidooldaaGreatDoorRows
import Derived.SevenTiedAt
import Derived.ProofKit
import Derived.Stop.Joined
import Derived.JoinedOf
noncomputable section
namespace Go.Proofs.YtmjodojidooldaaGreatDoor
open Go
set_option maxRecDepth 100000
theorem j0 : Rows.inferKnownRow.wf (OpenSpec.ofChange Rows.inferKnownSpec) = true := by kernel_rfl
theorem j1 : laidOutB Tryz.pinned.checked.prog = true := by kernel_rfl
theorem j2 : mapsRowed Tryz.pinned.checked.prog = true := by kernel_rfl
theorem j3 : Tryz.f3.params.all (Tryz.pinned.checked.prog.readableRec ·) = true := by kernel_rfl
theorem j4 : namedTie Tryz.pinned.checked.prog Rows.inferKnownRow.named Rows.inferKnownSpec.vars = true := by kernel_rfl
end Go.Proofs.YtmjodojidooldaaGreatDoor
end

