/- runs of some texts. Part of the proof of girandolelaw09.OrderCalls. -/
import Derived.Test.YtglacbfdbfhmfaaDoorOc
set_option linter.unusedVariables false
set_option linter.unusedSimpArgs false
set_option maxRecDepth 1000000
namespace Go.Proofs
open Go Go.Abs
theorem oc_s_9_0 : okS (Oc.text 9 0) = true := by kernel_rfl
theorem oc_p_9_0 : parseS (Oc.text 9 0) = some (Oc.nodes 9 0) := by kernel_rfl
theorem oc_r_9_0 : recN ((8, [.str (Oc.text 9 0)], pV (Oc.nodes 9 0)) :: memo1) 14 [.str (Oc.text 9 0)] [] = some (.ret (vOc 9 0) [] 0) := by kernel_rfl
theorem oc_g_9_0 : goes6 9 0 := fun a b => by kernel_rfl
theorem oc_9_0 : Case6 9 0 := ⟨oc_s_9_0, oc_p_9_0, oc_r_9_0, oc_g_9_0⟩
theorem oc_s_9_1 : okS (Oc.text 9 1) = true := by kernel_rfl
theorem oc_p_9_1 : parseS (Oc.text 9 1) = some (Oc.nodes 9 1) := by kernel_rfl
theorem oc_r_9_1 : recN ((8, [.str (Oc.text 9 1)], pV (Oc.nodes 9 1)) :: memo1) 14 [.str (Oc.text 9 1)] [] = some (.ret (vOc 9 1) [] 0) := by kernel_rfl
theorem oc_g_9_1 : goes6 9 1 := fun a b => by kernel_rfl
theorem oc_9_1 : Case6 9 1 := ⟨oc_s_9_1, oc_p_9_1, oc_r_9_1, oc_g_9_1⟩
theorem oc_s_9_2 : okS (Oc.text 9 2) = true := by kernel_rfl
theorem oc_p_9_2 : parseS (Oc.text 9 2) = some (Oc.nodes 9 2) := by kernel_rfl
theorem oc_r_9_2 : recN ((8, [.str (Oc.text 9 2)], pV (Oc.nodes 9 2)) :: memo1) 14 [.str (Oc.text 9 2)] [] = some (.ret (vOc 9 2) [] 0) := by kernel_rfl
theorem oc_g_9_2 : goes6 9 2 := fun a b => by kernel_rfl
theorem oc_9_2 : Case6 9 2 := ⟨oc_s_9_2, oc_p_9_2, oc_r_9_2, oc_g_9_2⟩
end Go.Proofs
