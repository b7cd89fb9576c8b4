/- runs of some texts. Part of the proof of girandolelaw09.OrderCalls. -/
import Derived.Test.YtglacbfdbfhmfaaDoorOc
set_option linter.unusedVariables false
set_option linter.unusedSimpArgs false
set_option maxRecDepth 1000000
namespace Go.Proofs
open Go Go.Abs
theorem oc_s_4_0 : okS (Oc.text 4 0) = true := by kernel_rfl
theorem oc_p_4_0 : parseS (Oc.text 4 0) = some (Oc.nodes 4 0) := by kernel_rfl
theorem oc_r_4_0 : recN ((8, [.str (Oc.text 4 0)], pV (Oc.nodes 4 0)) :: memo1) 14 [.str (Oc.text 4 0)] [] = some (.ret (vOc 4 0) [] 0) := by kernel_rfl
theorem oc_g_4_0 : goes6 4 0 := fun a b => by kernel_rfl
theorem oc_4_0 : Case6 4 0 := ⟨oc_s_4_0, oc_p_4_0, oc_r_4_0, oc_g_4_0⟩
theorem oc_s_4_1 : okS (Oc.text 4 1) = true := by kernel_rfl
theorem oc_p_4_1 : parseS (Oc.text 4 1) = some (Oc.nodes 4 1) := by kernel_rfl
theorem oc_r_4_1 : recN ((8, [.str (Oc.text 4 1)], pV (Oc.nodes 4 1)) :: memo1) 14 [.str (Oc.text 4 1)] [] = some (.ret (vOc 4 1) [] 0) := by kernel_rfl
theorem oc_g_4_1 : goes6 4 1 := fun a b => by kernel_rfl
theorem oc_4_1 : Case6 4 1 := ⟨oc_s_4_1, oc_p_4_1, oc_r_4_1, oc_g_4_1⟩
theorem oc_s_4_2 : okS (Oc.text 4 2) = true := by kernel_rfl
theorem oc_p_4_2 : parseS (Oc.text 4 2) = some (Oc.nodes 4 2) := by kernel_rfl
theorem oc_r_4_2 : recN ((8, [.str (Oc.text 4 2)], pV (Oc.nodes 4 2)) :: memo1) 14 [.str (Oc.text 4 2)] [] = some (.ret (vOc 4 2) [] 0) := by kernel_rfl
theorem oc_g_4_2 : goes6 4 2 := fun a b => by kernel_rfl
theorem oc_4_2 : Case6 4 2 := ⟨oc_s_4_2, oc_p_4_2, oc_r_4_2, oc_g_4_2⟩
theorem oc_s_4_3 : okS (Oc.text 4 3) = true := by kernel_rfl
theorem oc_p_4_3 : parseS (Oc.text 4 3) = some (Oc.nodes 4 3) := by kernel_rfl
theorem oc_r_4_3 : recN ((8, [.str (Oc.text 4 3)], pV (Oc.nodes 4 3)) :: memo1) 14 [.str (Oc.text 4 3)] [] = some (.ret (vOc 4 3) [] 0) := by kernel_rfl
theorem oc_g_4_3 : goes6 4 3 := fun a b => by kernel_rfl
theorem oc_4_3 : Case6 4 3 := ⟨oc_s_4_3, oc_p_4_3, oc_r_4_3, oc_g_4_3⟩
theorem oc_s_4_4 : okS (Oc.text 4 4) = true := by kernel_rfl
theorem oc_p_4_4 : parseS (Oc.text 4 4) = some (Oc.nodes 4 4) := by kernel_rfl
theorem oc_r_4_4 : recN ((8, [.str (Oc.text 4 4)], pV (Oc.nodes 4 4)) :: memo1) 14 [.str (Oc.text 4 4)] [] = some (.ret (vOc 4 4) [] 0) := by kernel_rfl
theorem oc_g_4_4 : goes6 4 4 := fun a b => by kernel_rfl
theorem oc_4_4 : Case6 4 4 := ⟨oc_s_4_4, oc_p_4_4, oc_r_4_4, oc_g_4_4⟩
theorem oc_s_4_5 : okS (Oc.text 4 5) = true := by kernel_rfl
theorem oc_p_4_5 : parseS (Oc.text 4 5) = some (Oc.nodes 4 5) := by kernel_rfl
theorem oc_r_4_5 : recN ((8, [.str (Oc.text 4 5)], pV (Oc.nodes 4 5)) :: memo1) 14 [.str (Oc.text 4 5)] [] = some (.ret (vOc 4 5) [] 0) := by kernel_rfl
theorem oc_g_4_5 : goes6 4 5 := fun a b => by kernel_rfl
theorem oc_4_5 : Case6 4 5 := ⟨oc_s_4_5, oc_p_4_5, oc_r_4_5, oc_g_4_5⟩
end Go.Proofs
