/-
  A part of the proof of the tied card of usufructlaw18.InferKnown: ZzD4.
-/
import Derived.Test.YtmjodojidooldaaGreatDoorZD0
import Derived.LaidByTextLater
import Derived.LaidOnce
import Derived.LaidMore
import Derived.ProofKit
noncomputable section
namespace Go.Proofs.YtmjodojidooldaaGreatDoor
open Go
set_option maxRecDepth 100000
theorem d4 : ∀ os : Os, ((doorW os).forCall (fun _ _ => 0) ⟨#[], #[], []⟩).Shaped Tryz.prog := fun _ => World.shaped_of_RefB (by kernel_rfl) (by kernel_rfl)
theorem d5 : ∀ os : Os, Input.okWideB Tryz.prog ((doorW os).forCall (fun _ _ => 0) ⟨#[], #[], []⟩) 3 ⟨#[], #[], []⟩ = true := fun _ => by kernel_rfl
theorem d6 : ∀ (H : Type) (enc : TypeId × Value → H) (os : Os), Rows.inferKnownSpec.preB enc Tryz.prog Tryz.f3 [] false ((doorW os).forCall (fun _ _ => 0) ⟨#[], #[], []⟩).memory #[] 8 = true := fun _ _ _ => by kernel_rfl
theorem d7 : ∀ (H : Type) (enc : TypeId × Value → H) (os : Os), Rows.inferKnownSpec.sizedB enc Tryz.prog Tryz.f3 false ((doorW os).forCall (fun _ _ => 0) ⟨#[], #[], []⟩).memory #[] 8 = true := fun _ _ _ => by kernel_rfl
end Go.Proofs.YtmjodojidooldaaGreatDoor
end

