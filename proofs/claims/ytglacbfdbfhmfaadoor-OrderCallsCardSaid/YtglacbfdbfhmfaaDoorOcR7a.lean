/- runs of some texts. Part of the proof of girandolelaw09.OrderCalls. -/
import Derived.Test.YtglacbfdbfhmfaaDoorOc
set_option linter.unusedVariables false
set_option linter.unusedSimpArgs false
set_option maxRecDepth 1000000
namespace Go.Proofs
open Go Go.Abs
theorem oc_s_7_0 : okS (Oc.text 7 0) = true := by kernel_rfl
theorem oc_p_7_0 : parseS (Oc.text 7 0) = some (Oc.nodes 7 0) := by kernel_rfl
theorem oc_r_7_0 : recN ((8, [.str (Oc.text 7 0)], pV (Oc.nodes 7 0)) :: memo1) 14 [.str (Oc.text 7 0)] [] = some (.ret (vOc 7 0) [] 0) := by kernel_rfl
theorem oc_g_7_0 : goes6 7 0 := fun a b => by kernel_rfl
theorem oc_7_0 : Case6 7 0 := ⟨oc_s_7_0, oc_p_7_0, oc_r_7_0, oc_g_7_0⟩
theorem oc_s_7_1 : okS (Oc.text 7 1) = true := by kernel_rfl
theorem oc_p_7_1 : parseS (Oc.text 7 1) = some (Oc.nodes 7 1) := by kernel_rfl
theorem oc_r_7_1 : recN ((8, [.str (Oc.text 7 1)], pV (Oc.nodes 7 1)) :: memo1) 14 [.str (Oc.text 7 1)] [] = some (.ret (vOc 7 1) [] 0) := by kernel_rfl
theorem oc_g_7_1 : goes6 7 1 := fun a b => by kernel_rfl
theorem oc_7_1 : Case6 7 1 := ⟨oc_s_7_1, oc_p_7_1, oc_r_7_1, oc_g_7_1⟩
theorem oc_s_7_2 : okS (Oc.text 7 2) = true := by kernel_rfl
theorem oc_p_7_2 : parseS (Oc.text 7 2) = some (Oc.nodes 7 2) := by kernel_rfl
theorem oc_r_7_2 : recN ((8, [.str (Oc.text 7 2)], pV (Oc.nodes 7 2)) :: memo1) 14 [.str (Oc.text 7 2)] [] = some (.ret (vOc 7 2) [] 0) := by kernel_rfl
theorem oc_g_7_2 : goes6 7 2 := fun a b => by kernel_rfl
theorem oc_7_2 : Case6 7 2 := ⟨oc_s_7_2, oc_p_7_2, oc_r_7_2, oc_g_7_2⟩
theorem oc_s_7_3 : okS (Oc.text 7 3) = true := by kernel_rfl
theorem oc_p_7_3 : parseS (Oc.text 7 3) = some (Oc.nodes 7 3) := by kernel_rfl
theorem oc_r_7_3 : recN ((8, [.str (Oc.text 7 3)], pV (Oc.nodes 7 3)) :: memo1) 14 [.str (Oc.text 7 3)] [] = some (.ret (vOc 7 3) [] 0) := by kernel_rfl
theorem oc_g_7_3 : goes6 7 3 := fun a b => by kernel_rfl
theorem oc_7_3 : Case6 7 3 := ⟨oc_s_7_3, oc_p_7_3, oc_r_7_3, oc_g_7_3⟩
end Go.Proofs
