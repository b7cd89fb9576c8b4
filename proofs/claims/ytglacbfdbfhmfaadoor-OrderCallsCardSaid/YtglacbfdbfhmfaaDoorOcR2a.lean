/- runs of some texts. Part of the proof of girandolelaw09.OrderCalls. -/
import Derived.Test.YtglacbfdbfhmfaaDoorOc
set_option linter.unusedVariables false
set_option linter.unusedSimpArgs false
set_option maxRecDepth 1000000
namespace Go.Proofs
open Go Go.Abs
theorem oc_s_2_0 : okS (Oc.text 2 0) = true := by kernel_rfl
theorem oc_p_2_0 : parseS (Oc.text 2 0) = some (Oc.nodes 2 0) := by kernel_rfl
theorem oc_r_2_0 : recN ((8, [.str (Oc.text 2 0)], pV (Oc.nodes 2 0)) :: memo1) 14 [.str (Oc.text 2 0)] [] = some (.ret (vOc 2 0) [] 0) := by kernel_rfl
theorem oc_g_2_0 : goes6 2 0 := fun a b => by kernel_rfl
theorem oc_2_0 : Case6 2 0 := ⟨oc_s_2_0, oc_p_2_0, oc_r_2_0, oc_g_2_0⟩
theorem oc_s_2_1 : okS (Oc.text 2 1) = true := by kernel_rfl
theorem oc_p_2_1 : parseS (Oc.text 2 1) = some (Oc.nodes 2 1) := by kernel_rfl
theorem oc_r_2_1 : recN ((8, [.str (Oc.text 2 1)], pV (Oc.nodes 2 1)) :: memo1) 14 [.str (Oc.text 2 1)] [] = some (.ret (vOc 2 1) [] 0) := by kernel_rfl
theorem oc_g_2_1 : goes6 2 1 := fun a b => by kernel_rfl
theorem oc_2_1 : Case6 2 1 := ⟨oc_s_2_1, oc_p_2_1, oc_r_2_1, oc_g_2_1⟩
theorem oc_s_2_2 : okS (Oc.text 2 2) = true := by kernel_rfl
theorem oc_p_2_2 : parseS (Oc.text 2 2) = some (Oc.nodes 2 2) := by kernel_rfl
theorem oc_r_2_2 : recN ((8, [.str (Oc.text 2 2)], pV (Oc.nodes 2 2)) :: memo1) 14 [.str (Oc.text 2 2)] [] = some (.ret (vOc 2 2) [] 0) := by kernel_rfl
theorem oc_g_2_2 : goes6 2 2 := fun a b => by kernel_rfl
theorem oc_2_2 : Case6 2 2 := ⟨oc_s_2_2, oc_p_2_2, oc_r_2_2, oc_g_2_2⟩
theorem oc_s_2_3 : okS (Oc.text 2 3) = true := by kernel_rfl
theorem oc_p_2_3 : parseS (Oc.text 2 3) = some (Oc.nodes 2 3) := by kernel_rfl
theorem oc_r_2_3 : recN ((8, [.str (Oc.text 2 3)], pV (Oc.nodes 2 3)) :: memo1) 14 [.str (Oc.text 2 3)] [] = some (.ret (vOc 2 3) [] 0) := by kernel_rfl
theorem oc_g_2_3 : goes6 2 3 := fun a b => by kernel_rfl
theorem oc_2_3 : Case6 2 3 := ⟨oc_s_2_3, oc_p_2_3, oc_r_2_3, oc_g_2_3⟩
end Go.Proofs
