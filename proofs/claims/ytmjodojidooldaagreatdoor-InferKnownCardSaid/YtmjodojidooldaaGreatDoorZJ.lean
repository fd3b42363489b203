/-
  A part of the proof of the tied card of usufructlaw18.InferKnown: ZzJ.
-/
import Derived.Test.YtmjodojidooldaaGreatDoorRows
import Derived.SevenTiedAt
import Derived.ProofKit
import Derived.Stop.Joined
import Derived.JoinedOf
import Derived.Test.YtmjodojidooldaaGreatDoorZJ0
import Derived.Test.YtmjodojidooldaaGreatDoorJa
import Derived.Test.YtmjodojidooldaaGreatDoorZJ2
import Derived.Test.YtmjodojidooldaaGreatDoorZJ3
import Derived.Test.YtmjodojidooldaaGreatDoorZJ4
import Derived.Test.YtmjodojidooldaaGreatDoorZJ5
import Derived.Test.YtmjodojidooldaaGreatDoorZJ7
noncomputable section
namespace Go.Proofs.YtmjodojidooldaaGreatDoor
open Go
set_option maxRecDepth 100000
theorem c1 : joinedFacts Tryz.pinned.checked.prog 3 Tryz.f3 Rows.inferKnownSpec Rows.inferKnownRow = true := by
  unfold joinedFacts
  simp only [Bool.and_eq_true]
  exact ⟨⟨⟨⟨⟨⟨⟨⟨⟨⟨⟨⟨⟨⟨⟨⟨⟨⟨⟨⟨⟨⟨⟨⟨⟨⟨⟨⟨⟨⟨⟨j0, j1⟩, j2⟩, j3⟩, j4⟩, j5⟩, j6⟩, j7⟩, j8⟩, j9⟩, j10⟩, j11⟩, j12⟩, j13⟩, j14⟩, j15⟩, j16⟩, j17⟩, j18⟩, j19⟩, j20⟩, j21⟩, j22⟩, j23⟩, j24⟩, j25⟩, j26⟩, j27⟩, j28⟩, j29⟩, j30⟩, j31⟩
end Go.Proofs.YtmjodojidooldaaGreatDoor
end

