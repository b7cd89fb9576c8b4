/- runs of some texts. Part of the proof of girandolelaw09.OrderCalls. -/
import Derived.Test.YtglacbfdbfhmfaaDoorOc
set_option linter.unusedVariables false
set_option linter.unusedSimpArgs false
set_option maxRecDepth 1000000
namespace Go.Proofs
open Go Go.Abs
theorem oc_s_1_0 : okS (Oc.text 1 0) = true := by kernel_rfl
theorem oc_p_1_0 : parseS (Oc.text 1 0) = some (Oc.nodes 1 0) := by kernel_rfl
theorem oc_r_1_0 : recN ((8, [.str (Oc.text 1 0)], pV (Oc.nodes 1 0)) :: memo1) 14 [.str (Oc.text 1 0)] [] = some (.ret (vOc 1 0) [] 0) := by kernel_rfl
theorem oc_g_1_0 : goes6 1 0 := fun a b => by kernel_rfl
theorem oc_1_0 : Case6 1 0 := ⟨oc_s_1_0, oc_p_1_0, oc_r_1_0, oc_g_1_0⟩
theorem oc_s_1_1 : okS (Oc.text 1 1) = true := by kernel_rfl
theorem oc_p_1_1 : parseS (Oc.text 1 1) = some (Oc.nodes 1 1) := by kernel_rfl
theorem oc_r_1_1 : recN ((8, [.str (Oc.text 1 1)], pV (Oc.nodes 1 1)) :: memo1) 14 [.str (Oc.text 1 1)] [] = some (.ret (vOc 1 1) [] 0) := by kernel_rfl
theorem oc_g_1_1 : goes6 1 1 := fun a b => by kernel_rfl
theorem oc_1_1 : Case6 1 1 := ⟨oc_s_1_1, oc_p_1_1, oc_r_1_1, oc_g_1_1⟩
theorem oc_s_1_2 : okS (Oc.text 1 2) = true := by kernel_rfl
theorem oc_p_1_2 : parseS (Oc.text 1 2) = some (Oc.nodes 1 2) := by kernel_rfl
theorem oc_r_1_2 : recN ((8, [.str (Oc.text 1 2)], pV (Oc.nodes 1 2)) :: memo1) 14 [.str (Oc.text 1 2)] [] = some (.ret (vOc 1 2) [] 0) := by kernel_rfl
theorem oc_g_1_2 : goes6 1 2 := fun a b => by kernel_rfl
theorem oc_1_2 : Case6 1 2 := ⟨oc_s_1_2, oc_p_1_2, oc_r_1_2, oc_g_1_2⟩
end Go.Proofs
