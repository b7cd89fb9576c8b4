/- runs of some texts. Part of the proof of girandolelaw09.OrderCalls. -/
import Derived.Test.YtglacbfdbfhmfaaDoorOc
set_option linter.unusedVariables false
set_option linter.unusedSimpArgs false
set_option maxRecDepth 1000000
namespace Go.Proofs
open Go Go.Abs
theorem oc_s_9_9 : okS (Oc.text 9 9) = true := by kernel_rfl
theorem oc_p_9_9 : parseS (Oc.text 9 9) = some (Oc.nodes 9 9) := by kernel_rfl
theorem oc_r_9_9 : recN ((8, [.str (Oc.text 9 9)], pV (Oc.nodes 9 9)) :: memo1) 14 [.str (Oc.text 9 9)] [] = some (.ret (vOc 9 9) [] 0) := by kernel_rfl
theorem oc_g_9_9 : goes6 9 9 := fun a b => by kernel_rfl
theorem oc_9_9 : Case6 9 9 := ⟨oc_s_9_9, oc_p_9_9, oc_r_9_9, oc_g_9_9⟩
theorem oc_s_9_10 : okS (Oc.text 9 10) = true := by kernel_rfl
theorem oc_p_9_10 : parseS (Oc.text 9 10) = some (Oc.nodes 9 10) := by kernel_rfl
theorem oc_r_9_10 : recN ((8, [.str (Oc.text 9 10)], pV (Oc.nodes 9 10)) :: memo1) 14 [.str (Oc.text 9 10)] [] = some (.ret (vOc 9 10) [] 0) := by kernel_rfl
theorem oc_g_9_10 : goes6 9 10 := fun a b => by kernel_rfl
theorem oc_9_10 : Case6 9 10 := ⟨oc_s_9_10, oc_p_9_10, oc_r_9_10, oc_g_9_10⟩
end Go.Proofs
