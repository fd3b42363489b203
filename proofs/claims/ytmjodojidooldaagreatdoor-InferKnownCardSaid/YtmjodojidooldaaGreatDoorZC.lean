/-
  A part of the proof of the tied card of usufructlaw18.InferKnown: ZzC.
-/
import Derived.Test.YtmjodojidooldaaGreatDoorZT
import Derived.Test.YtmjodojidooldaaGreatDoorFa
import Derived.Test.YtmjodojidooldaaGreatDoorZF4
import Derived.Test.YtmjodojidooldaaGreatDoorZF5
import Derived.Test.YtmjodojidooldaaGreatDoorZF6
import Derived.Test.YtmjodojidooldaaGreatDoorZF7
import Derived.Test.YtmjodojidooldaaGreatDoorZF8
import Derived.Test.YtmjodojidooldaaGreatDoorZF9
import Derived.Test.YtmjodojidooldaaGreatDoorZF10
import Derived.Test.YtmjodojidooldaaGreatDoorZF11
import Derived.Test.YtmjodojidooldaaGreatDoorZF12
import Derived.Test.YtmjodojidooldaaGreatDoorZF13
import Derived.Test.YtmjodojidooldaaGreatDoorZF14
import Derived.Test.YtmjodojidooldaaGreatDoorZF15
import Derived.Test.YtmjodojidooldaaGreatDoorZM0
import Derived.Test.YtmjodojidooldaaGreatDoorZM1
set_option linter.all false
set_option linter.unusedVariables false
set_option linter.unusedSimpArgs false
noncomputable section
namespace Go.Uf
open Go Go.Proofs
theorem o0 : TabOk tabs.env0 tabs.P O0 := TabOk.nil
theorem p0 : MemsOk tabs.env0 tabs.P M0 := MemsOk.nil
theorem o1 : TabOk tabs.env0 tabs.P O1 := (Tabs.add tabs_ok o0 p0 (Tabs.add tabs_ok o0 p0 (Tabs.add tabs_ok o0 p0 (Tabs.add tabs_ok o0 p0 o0 (by kernel_rfl) (by kernel_rfl) k0) (by kernel_rfl) (by kernel_rfl) k1) (by kernel_rfl) (by kernel_rfl) k2) (by kernel_rfl) (by kernel_rfl) k3)
theorem o2 : TabOk tabs.env0 tabs.P O2 := (Tabs.add tabs_ok o1 p0 (Tabs.add tabs_ok o1 p0 (Tabs.add tabs_ok o1 p0 (Tabs.add tabs_ok o1 p0 o1 (by kernel_rfl) (by kernel_rfl) k4) (by kernel_rfl) (by kernel_rfl) k5) (by kernel_rfl) (by kernel_rfl) k6) (by kernel_rfl) (by kernel_rfl) k7)
theorem p1 : MemsOk tabs.env0 tabs.P M1 := Tabs.addM tabs_ok o2 p0 p0 q0
theorem p2 : MemsOk tabs.env0 tabs.P M2 := Tabs.addM tabs_ok o2 p1 p1 q1
theorem o3 : TabOk tabs.env0 tabs.P O3 := (Tabs.add tabs_ok o2 p2 (Tabs.add tabs_ok o2 p0 (Tabs.add tabs_ok o2 p0 (Tabs.add tabs_ok o2 p0 (Tabs.add tabs_ok o2 p0 (Tabs.add tabs_ok o2 p0 (Tabs.add tabs_ok o2 p0 (Tabs.add tabs_ok o2 p0 TabOk.nil (by kernel_rfl) (by kernel_rfl) k8) (by kernel_rfl) (by kernel_rfl) k9) (by kernel_rfl) (by kernel_rfl) k10) (by kernel_rfl) (by kernel_rfl) k11) (by kernel_rfl) (by kernel_rfl) k12) (by kernel_rfl) (by kernel_rfl) k13) (by kernel_rfl) (by kernel_rfl) k14) (by kernel_rfl) (by kernel_rfl) k15)
theorem called (w : World) (hw : JL gl w) (k : Nat) : CallsIn Fence.wide k Tryz.prog 3 #[] w fun e w' => e = .returned (.bool true) ∧ Go.RowKit.Below w.heap.size w w' := Tabs.call tabs_ok o3 p0 kz w hw k
#print axioms called
end Go.Uf
end

