/- runs of some texts. Part of the proof of girandolelaw09.OrderCalls. -/
import Derived.Test.YtglacbfdbfhmfaaDoorOc
set_option linter.unusedVariables false
set_option linter.unusedSimpArgs false
set_option maxRecDepth 1000000
namespace Go.Proofs
open Go Go.Abs
theorem oc_s_10_9 : okS (Oc.text 10 9) = true := by kernel_rfl
theorem oc_p_10_9 : parseS (Oc.text 10 9) = some (Oc.nodes 10 9) := by kernel_rfl
theorem oc_r_10_9 : recN ((8, [.str (Oc.text 10 9)], pV (Oc.nodes 10 9)) :: memo1) 14 [.str (Oc.text 10 9)] [] = some (.ret (vOc 10 9) [] 0) := by kernel_rfl
theorem oc_g_10_9 : goes6 10 9 := fun a b => by kernel_rfl
theorem oc_10_9 : Case6 10 9 := ⟨oc_s_10_9, oc_p_10_9, oc_r_10_9, oc_g_10_9⟩
theorem oc_s_10_10 : okS (Oc.text 10 10) = true := by kernel_rfl
theorem oc_p_10_10 : parseS (Oc.text 10 10) = some (Oc.nodes 10 10) := by kernel_rfl
theorem oc_r_10_10 : recN ((8, [.str (Oc.text 10 10)], pV (Oc.nodes 10 10)) :: memo1) 14 [.str (Oc.text 10 10)] [] = some (.ret (vOc 10 10) [] 0) := by kernel_rfl
theorem oc_g_10_10 : goes6 10 10 := fun a b => by kernel_rfl
theorem oc_10_10 : Case6 10 10 := ⟨oc_s_10_10, oc_p_10_10, oc_r_10_10, oc_g_10_10⟩
theorem oc_s_10_11 : okS (Oc.text 10 11) = true := by kernel_rfl
theorem oc_p_10_11 : parseS (Oc.text 10 11) = some (Oc.nodes 10 11) := by kernel_rfl
theorem oc_r_10_11 : recN ((8, [.str (Oc.text 10 11)], pV (Oc.nodes 10 11)) :: memo1) 14 [.str (Oc.text 10 11)] [] = some (.ret (vOc 10 11) [] 0) := by kernel_rfl
theorem oc_g_10_11 : goes6 10 11 := fun a b => by kernel_rfl
theorem oc_10_11 : Case6 10 11 := ⟨oc_s_10_11, oc_p_10_11, oc_r_10_11, oc_g_10_11⟩
end Go.Proofs
