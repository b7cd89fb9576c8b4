/- runs of some texts. Part of the proof of girandolelaw09.OrderCalls. -/
import Derived.Test.YtglacbfdbfhmfaaDoorOc
set_option linter.unusedVariables false
set_option linter.unusedSimpArgs false
set_option maxRecDepth 1000000
namespace Go.Proofs
open Go Go.Abs
theorem oc_s_5_0 : okS (Oc.text 5 0) = true := by kernel_rfl
theorem oc_p_5_0 : parseS (Oc.text 5 0) = some (Oc.nodes 5 0) := by kernel_rfl
theorem oc_r_5_0 : recN ((8, [.str (Oc.text 5 0)], pV (Oc.nodes 5 0)) :: memo1) 14 [.str (Oc.text 5 0)] [] = some (.ret (vOc 5 0) [] 0) := by kernel_rfl
theorem oc_g_5_0 : goes6 5 0 := fun a b => by kernel_rfl
theorem oc_5_0 : Case6 5 0 := ⟨oc_s_5_0, oc_p_5_0, oc_r_5_0, oc_g_5_0⟩
theorem oc_s_5_1 : okS (Oc.text 5 1) = true := by kernel_rfl
theorem oc_p_5_1 : parseS (Oc.text 5 1) = some (Oc.nodes 5 1) := by kernel_rfl
theorem oc_r_5_1 : recN ((8, [.str (Oc.text 5 1)], pV (Oc.nodes 5 1)) :: memo1) 14 [.str (Oc.text 5 1)] [] = some (.ret (vOc 5 1) [] 0) := by kernel_rfl
theorem oc_g_5_1 : goes6 5 1 := fun a b => by kernel_rfl
theorem oc_5_1 : Case6 5 1 := ⟨oc_s_5_1, oc_p_5_1, oc_r_5_1, oc_g_5_1⟩
theorem oc_s_5_2 : okS (Oc.text 5 2) = true := by kernel_rfl
theorem oc_p_5_2 : parseS (Oc.text 5 2) = some (Oc.nodes 5 2) := by kernel_rfl
theorem oc_r_5_2 : recN ((8, [.str (Oc.text 5 2)], pV (Oc.nodes 5 2)) :: memo1) 14 [.str (Oc.text 5 2)] [] = some (.ret (vOc 5 2) [] 0) := by kernel_rfl
theorem oc_g_5_2 : goes6 5 2 := fun a b => by kernel_rfl
theorem oc_5_2 : Case6 5 2 := ⟨oc_s_5_2, oc_p_5_2, oc_r_5_2, oc_g_5_2⟩
theorem oc_s_5_3 : okS (Oc.text 5 3) = true := by kernel_rfl
theorem oc_p_5_3 : parseS (Oc.text 5 3) = some (Oc.nodes 5 3) := by kernel_rfl
theorem oc_r_5_3 : recN ((8, [.str (Oc.text 5 3)], pV (Oc.nodes 5 3)) :: memo1) 14 [.str (Oc.text 5 3)] [] = some (.ret (vOc 5 3) [] 0) := by kernel_rfl
theorem oc_g_5_3 : goes6 5 3 := fun a b => by kernel_rfl
theorem oc_5_3 : Case6 5 3 := ⟨oc_s_5_3, oc_p_5_3, oc_r_5_3, oc_g_5_3⟩
end Go.Proofs
