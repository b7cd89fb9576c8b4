/- runs of some texts. Part of the proof of girandolelaw09.OrderCalls. -/
import Derived.Test.YtglacbfdbfhmfaaDoorOc
set_option linter.unusedVariables false
set_option linter.unusedSimpArgs false
set_option maxRecDepth 1000000
namespace Go.Proofs
open Go Go.Abs
theorem oc_s_8_9 : okS (Oc.text 8 9) = true := by kernel_rfl
theorem oc_p_8_9 : parseS (Oc.text 8 9) = some (Oc.nodes 8 9) := by kernel_rfl
theorem oc_r_8_9 : recN ((8, [.str (Oc.text 8 9)], pV (Oc.nodes 8 9)) :: memo1) 14 [.str (Oc.text 8 9)] [] = some (.ret (vOc 8 9) [] 0) := by kernel_rfl
theorem oc_g_8_9 : goes6 8 9 := fun a b => by kernel_rfl
theorem oc_8_9 : Case6 8 9 := ⟨oc_s_8_9, oc_p_8_9, oc_r_8_9, oc_g_8_9⟩
end Go.Proofs
