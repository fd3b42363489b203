/-
  A part of the proof of the tied card of usufructlaw18.InferKnown: ZzH5.
-/
import Derived.Test.YtmjodojidooldaaGreatDoorRows
import Derived.SevenTiedAt
import Derived.Test.YtmjodojidooldaaGreatDoorHa
import Derived.ProofKit
import Derived.Stop.Joined
import Derived.JoinedOf
set_option linter.all false
set_option linter.unusedVariables false
set_option linter.unusedSimpArgs false
noncomputable section
namespace Go.Proofs.YtmjodojidooldaaGreatDoor
open Go
set_option maxRecDepth 100000
theorem g2 : Tryz.pinned.checked.prog.funcs.toList.any Func.goes = false := by kernel_rfl
theorem goes_of_none {P : Program} {f : FuncId} (h : P.funcs.toList.any Func.goes = false) : P.goes f = false := by
  have hall : ∀ (g : Nat) (fn : Func), P.funcs[g]? = some fn → fn.goes = false := fun g fn hg => by
    have hm : fn ∈ P.funcs.toList := by
      rw [Array.mem_toList_iff]
      exact Array.mem_of_getElem? hg
    have := List.any_eq_false.1 h fn hm
    simpa using this
  have h2 : P.funcs.any Func.goes = false := by rw [← Array.any_toList]; exact h
  unfold Program.goes
  rw [h2, Bool.and_false, Bool.or_false, List.any_eq_false]
  intro g _
  cases hg : P.funcs[g]? with
  | none => simp
  | some fn => simp [hall g fn hg]
theorem c6 : false = Rows.inferKnownRow.goesBy Tryz.pinned.checked.prog := by
  show false = (Tryz.pinned.checked.prog.goesFrom "usufruct/usufructlaw18.InferKnown" || false)
  unfold Program.goesFrom
  rw [c8]
  simp [goes_of_none g2]
end Go.Proofs.YtmjodojidooldaaGreatDoor
end

