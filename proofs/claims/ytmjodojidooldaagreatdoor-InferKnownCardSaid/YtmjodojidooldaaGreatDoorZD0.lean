/-
  A part of the proof of the tied card of usufructlaw18.InferKnown: ZzD0.
-/
import Derived.Test.YtmjodojidooldaaGreatDoorRows
import Derived.LaidByTextLater
import Derived.LaidOnce
import Derived.LaidMore
import Derived.ProofKit
noncomputable section
namespace Go.Proofs.YtmjodojidooldaaGreatDoor
open Go
set_option maxRecDepth 100000
/-- the cells of Go's own table of first bytes -/
def firstCells : Array Value := (Pinned.utf8FirstZ.map fun n => Value.int .u8 (Int.ofNat n)).toArray
/-- the door's world, with that table laid -/
noncomputable def doorW (os : Os) : World :=
  { World.doorLaid Tryz.prog 400 os with heap := (World.doorLaid Tryz.prog 400 os).heap.modify 2 fun
      | .cells _ t z => .cells firstCells t z
      | o => o }
end Go.Proofs.YtmjodojidooldaaGreatDoor
end

