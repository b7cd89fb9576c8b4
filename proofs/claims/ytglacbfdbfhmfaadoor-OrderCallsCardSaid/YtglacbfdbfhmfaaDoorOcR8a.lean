/- runs of some texts. Part of the proof of girandolelaw09.OrderCalls. -/
import Derived.Test.YtglacbfdbfhmfaaDoorOc
set_option linter.unusedVariables false
set_option linter.unusedSimpArgs false
set_option maxRecDepth 1000000
namespace Go.Proofs
open Go Go.Abs
theorem oc_s_8_0 : okS (Oc.text 8 0) = true := by kernel_rfl
theorem oc_p_8_0 : parseS (Oc.text 8 0) = some (Oc.nodes 8 0) := by kernel_rfl
theorem oc_r_8_0 : recN ((8, [.str (Oc.text 8 0)], pV (Oc.nodes 8 0)) :: memo1) 14 [.str (Oc.text 8 0)] [] = some (.ret (vOc 8 0) [] 0) := by kernel_rfl
theorem oc_g_8_0 : goes6 8 0 := fun a b => by kernel_rfl
theorem oc_8_0 : Case6 8 0 := ⟨oc_s_8_0, oc_p_8_0, oc_r_8_0, oc_g_8_0⟩
theorem oc_s_8_1 : okS (Oc.text 8 1) = true := by kernel_rfl
theorem oc_p_8_1 : parseS (Oc.text 8 1) = some (Oc.nodes 8 1) := by kernel_rfl
theorem oc_r_8_1 : recN ((8, [.str (Oc.text 8 1)], pV (Oc.nodes 8 1)) :: memo1) 14 [.str (Oc.text 8 1)] [] = some (.ret (vOc 8 1) [] 0) := by kernel_rfl
theorem oc_g_8_1 : goes6 8 1 := fun a b => by kernel_rfl
theorem oc_8_1 : Case6 8 1 := ⟨oc_s_8_1, oc_p_8_1, oc_r_8_1, oc_g_8_1⟩
theorem oc_s_8_2 : okS (Oc.text 8 2) = true := by kernel_rfl
theorem oc_p_8_2 : parseS (Oc.text 8 2) = some (Oc.nodes 8 2) := by kernel_rfl
theorem oc_r_8_2 : recN ((8, [.str (Oc.text 8 2)], pV (Oc.nodes 8 2)) :: memo1) 14 [.str (Oc.text 8 2)] [] = some (.ret (vOc 8 2) [] 0) := by kernel_rfl
theorem oc_g_8_2 : goes6 8 2 := fun a b => by kernel_rfl
theorem oc_8_2 : Case6 8 2 := ⟨oc_s_8_2, oc_p_8_2, oc_r_8_2, oc_g_8_2⟩
end Go.Proofs
