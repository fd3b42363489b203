/-
  A part of the proof of the tied card of usufructlaw18.InferKnown: ZzH2, ZzH3, ZzH4.
-/
import Derived.Test.YtmjodojidooldaaGreatDoorRows
import Derived.SevenTiedAt
import Derived.ProofKit
import Derived.Stop.Joined
import Derived.JoinedOf
noncomputable section
namespace Go.Proofs.YtmjodojidooldaaGreatDoor
open Go
set_option maxRecDepth 100000
theorem c2 : Tryz.f3.isInstance Tryz.pinned.checked.prog Rows.inferKnownRow.origin Rows.inferKnownRow.targs := of_decide_eq_true (by kernel_rfl)
theorem c3 : Tryz.f3.isWrapper Tryz.pinned.checked.prog Rows.inferKnownRow.wrapper Rows.inferKnownRow.mainSum := by unfold Func.isWrapper; first | (rw [if_pos (by decide +kernel)]; kernel_rfl) | (rw [if_neg (by decide +kernel)]; exact ⟨rfl, rfl⟩)
theorem c7 : Tryz.pinned.checked.prog.mainIs = some (true, "321fad0fb33de13f983864cc6460c3323e1307ce35eb0707c7573546c0c1c47e".toList) := by kernel_rfl
theorem c8 : Tryz.pinned.checked.prog.funcNamed "usufruct/usufructlaw18.InferKnown" = some 3 := by kernel_rfl
end Go.Proofs.YtmjodojidooldaaGreatDoor
end

noncomputable section
namespace Go.Proofs.YtmjodojidooldaaGreatDoor
open Go
set_option maxRecDepth 100000
theorem c4 : Rows.inferKnownRow.wfByText (OpenSpec.ofChange Rows.inferKnownSpec) = true := by kernel_rfl
end Go.Proofs.YtmjodojidooldaaGreatDoor
end

noncomputable section
namespace Go.Proofs.YtmjodojidooldaaGreatDoor
open Go
set_option maxRecDepth 100000
theorem c5 : true = Tryz.pinned.checked.prog.looks [] := by kernel_rfl
end Go.Proofs.YtmjodojidooldaaGreatDoor
end

