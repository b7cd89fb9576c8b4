/- runs of some texts. Part of the proof of girandolelaw09.OrderCalls. -/
import Derived.Test.YtglacbfdbfhmfaaDoorOc
set_option linter.unusedVariables false
set_option linter.unusedSimpArgs false
set_option maxRecDepth 1000000
namespace Go.Proofs
open Go Go.Abs
theorem oc_s_6_0 : okS (Oc.text 6 0) = true := by kernel_rfl
theorem oc_p_6_0 : parseS (Oc.text 6 0) = some (Oc.nodes 6 0) := by kernel_rfl
theorem oc_r_6_0 : recN ((8, [.str (Oc.text 6 0)], pV (Oc.nodes 6 0)) :: memo1) 14 [.str (Oc.text 6 0)] [] = some (.ret (vOc 6 0) [] 0) := by kernel_rfl
theorem oc_g_6_0 : goes6 6 0 := fun a b => by kernel_rfl
theorem oc_6_0 : Case6 6 0 := ⟨oc_s_6_0, oc_p_6_0, oc_r_6_0, oc_g_6_0⟩
theorem oc_s_6_1 : okS (Oc.text 6 1) = true := by kernel_rfl
theorem oc_p_6_1 : parseS (Oc.text 6 1) = some (Oc.nodes 6 1) := by kernel_rfl
theorem oc_r_6_1 : recN ((8, [.str (Oc.text 6 1)], pV (Oc.nodes 6 1)) :: memo1) 14 [.str (Oc.text 6 1)] [] = some (.ret (vOc 6 1) [] 0) := by kernel_rfl
theorem oc_g_6_1 : goes6 6 1 := fun a b => by kernel_rfl
theorem oc_6_1 : Case6 6 1 := ⟨oc_s_6_1, oc_p_6_1, oc_r_6_1, oc_g_6_1⟩
theorem oc_s_6_2 : okS (Oc.text 6 2) = true := by kernel_rfl
theorem oc_p_6_2 : parseS (Oc.text 6 2) = some (Oc.nodes 6 2) := by kernel_rfl
theorem oc_r_6_2 : recN ((8, [.str (Oc.text 6 2)], pV (Oc.nodes 6 2)) :: memo1) 14 [.str (Oc.text 6 2)] [] = some (.ret (vOc 6 2) [] 0) := by kernel_rfl
theorem oc_g_6_2 : goes6 6 2 := fun a b => by kernel_rfl
theorem oc_6_2 : Case6 6 2 := ⟨oc_s_6_2, oc_p_6_2, oc_r_6_2, oc_g_6_2⟩
theorem oc_s_6_3 : okS (Oc.text 6 3) = true := by kernel_rfl
theorem oc_p_6_3 : parseS (Oc.text 6 3) = some (Oc.nodes 6 3) := by kernel_rfl
theorem oc_r_6_3 : recN ((8, [.str (Oc.text 6 3)], pV (Oc.nodes 6 3)) :: memo1) 14 [.str (Oc.text 6 3)] [] = some (.ret (vOc 6 3) [] 0) := by kernel_rfl
theorem oc_g_6_3 : goes6 6 3 := fun a b => by kernel_rfl
theorem oc_6_3 : Case6 6 3 := ⟨oc_s_6_3, oc_p_6_3, oc_r_6_3, oc_g_6_3⟩
end Go.Proofs
