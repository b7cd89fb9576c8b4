/- runs of some texts. Part of the proof of girandolelaw09.OrderCalls. -/
import Derived.Test.YtglacbfdbfhmfaaDoorOc
set_option linter.unusedVariables false
set_option linter.unusedSimpArgs false
set_option maxRecDepth 1000000
namespace Go.Proofs
open Go Go.Abs
theorem oc_s_10_0 : okS (Oc.text 10 0) = true := by kernel_rfl
theorem oc_p_10_0 : parseS (Oc.text 10 0) = some (Oc.nodes 10 0) := by kernel_rfl
theorem oc_r_10_0 : recN ((8, [.str (Oc.text 10 0)], pV (Oc.nodes 10 0)) :: memo1) 14 [.str (Oc.text 10 0)] [] = some (.ret (vOc 10 0) [] 0) := by kernel_rfl
theorem oc_g_10_0 : goes6 10 0 := fun a b => by kernel_rfl
theorem oc_10_0 : Case6 10 0 := ⟨oc_s_10_0, oc_p_10_0, oc_r_10_0, oc_g_10_0⟩
theorem oc_s_10_1 : okS (Oc.text 10 1) = true := by kernel_rfl
theorem oc_p_10_1 : parseS (Oc.text 10 1) = some (Oc.nodes 10 1) := by kernel_rfl
theorem oc_r_10_1 : recN ((8, [.str (Oc.text 10 1)], pV (Oc.nodes 10 1)) :: memo1) 14 [.str (Oc.text 10 1)] [] = some (.ret (vOc 10 1) [] 0) := by kernel_rfl
theorem oc_g_10_1 : goes6 10 1 := fun a b => by kernel_rfl
theorem oc_10_1 : Case6 10 1 := ⟨oc_s_10_1, oc_p_10_1, oc_r_10_1, oc_g_10_1⟩
theorem oc_s_10_2 : okS (Oc.text 10 2) = true := by kernel_rfl
theorem oc_p_10_2 : parseS (Oc.text 10 2) = some (Oc.nodes 10 2) := by kernel_rfl
theorem oc_r_10_2 : recN ((8, [.str (Oc.text 10 2)], pV (Oc.nodes 10 2)) :: memo1) 14 [.str (Oc.text 10 2)] [] = some (.ret (vOc 10 2) [] 0) := by kernel_rfl
theorem oc_g_10_2 : goes6 10 2 := fun a b => by kernel_rfl
theorem oc_10_2 : Case6 10 2 := ⟨oc_s_10_2, oc_p_10_2, oc_r_10_2, oc_g_10_2⟩
end Go.Proofs
