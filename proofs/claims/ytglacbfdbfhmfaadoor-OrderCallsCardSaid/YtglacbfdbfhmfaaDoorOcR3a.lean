/- runs of some texts. Part of the proof of girandolelaw09.OrderCalls. -/
import Derived.Test.YtglacbfdbfhmfaaDoorOc
set_option linter.unusedVariables false
set_option linter.unusedSimpArgs false
set_option maxRecDepth 1000000
namespace Go.Proofs
open Go Go.Abs
theorem oc_s_3_0 : okS (Oc.text 3 0) = true := by kernel_rfl
theorem oc_p_3_0 : parseS (Oc.text 3 0) = some (Oc.nodes 3 0) := by kernel_rfl
theorem oc_r_3_0 : recN ((8, [.str (Oc.text 3 0)], pV (Oc.nodes 3 0)) :: memo1) 14 [.str (Oc.text 3 0)] [] = some (.ret (vOc 3 0) [] 0) := by kernel_rfl
theorem oc_g_3_0 : goes6 3 0 := fun a b => by kernel_rfl
theorem oc_3_0 : Case6 3 0 := ⟨oc_s_3_0, oc_p_3_0, oc_r_3_0, oc_g_3_0⟩
theorem oc_s_3_1 : okS (Oc.text 3 1) = true := by kernel_rfl
theorem oc_p_3_1 : parseS (Oc.text 3 1) = some (Oc.nodes 3 1) := by kernel_rfl
theorem oc_r_3_1 : recN ((8, [.str (Oc.text 3 1)], pV (Oc.nodes 3 1)) :: memo1) 14 [.str (Oc.text 3 1)] [] = some (.ret (vOc 3 1) [] 0) := by kernel_rfl
theorem oc_g_3_1 : goes6 3 1 := fun a b => by kernel_rfl
theorem oc_3_1 : Case6 3 1 := ⟨oc_s_3_1, oc_p_3_1, oc_r_3_1, oc_g_3_1⟩
theorem oc_s_3_2 : okS (Oc.text 3 2) = true := by kernel_rfl
theorem oc_p_3_2 : parseS (Oc.text 3 2) = some (Oc.nodes 3 2) := by kernel_rfl
theorem oc_r_3_2 : recN ((8, [.str (Oc.text 3 2)], pV (Oc.nodes 3 2)) :: memo1) 14 [.str (Oc.text 3 2)] [] = some (.ret (vOc 3 2) [] 0) := by kernel_rfl
theorem oc_g_3_2 : goes6 3 2 := fun a b => by kernel_rfl
theorem oc_3_2 : Case6 3 2 := ⟨oc_s_3_2, oc_p_3_2, oc_r_3_2, oc_g_3_2⟩
theorem oc_s_3_3 : okS (Oc.text 3 3) = true := by kernel_rfl
theorem oc_p_3_3 : parseS (Oc.text 3 3) = some (Oc.nodes 3 3) := by kernel_rfl
theorem oc_r_3_3 : recN ((8, [.str (Oc.text 3 3)], pV (Oc.nodes 3 3)) :: memo1) 14 [.str (Oc.text 3 3)] [] = some (.ret (vOc 3 3) [] 0) := by kernel_rfl
theorem oc_g_3_3 : goes6 3 3 := fun a b => by kernel_rfl
theorem oc_3_3 : Case6 3 3 := ⟨oc_s_3_3, oc_p_3_3, oc_r_3_3, oc_g_3_3⟩
theorem oc_s_3_4 : okS (Oc.text 3 4) = true := by kernel_rfl
theorem oc_p_3_4 : parseS (Oc.text 3 4) = some (Oc.nodes 3 4) := by kernel_rfl
theorem oc_r_3_4 : recN ((8, [.str (Oc.text 3 4)], pV (Oc.nodes 3 4)) :: memo1) 14 [.str (Oc.text 3 4)] [] = some (.ret (vOc 3 4) [] 0) := by kernel_rfl
theorem oc_g_3_4 : goes6 3 4 := fun a b => by kernel_rfl
theorem oc_3_4 : Case6 3 4 := ⟨oc_s_3_4, oc_p_3_4, oc_r_3_4, oc_g_3_4⟩
end Go.Proofs
