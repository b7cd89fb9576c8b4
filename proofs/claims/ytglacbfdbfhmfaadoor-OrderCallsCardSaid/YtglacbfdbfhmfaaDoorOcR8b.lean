/- runs of some texts. Part of the proof of girandolelaw09.OrderCalls. -/
import Derived.Test.YtglacbfdbfhmfaaDoorOc
set_option linter.unusedVariables false
set_option linter.unusedSimpArgs false
set_option maxRecDepth 1000000
namespace Go.Proofs
open Go Go.Abs
theorem oc_s_8_3 : okS (Oc.text 8 3) = true := by kernel_rfl
theorem oc_p_8_3 : parseS (Oc.text 8 3) = some (Oc.nodes 8 3) := by kernel_rfl
theorem oc_r_8_3 : recN ((8, [.str (Oc.text 8 3)], pV (Oc.nodes 8 3)) :: memo1) 14 [.str (Oc.text 8 3)] [] = some (.ret (vOc 8 3) [] 0) := by kernel_rfl
theorem oc_g_8_3 : goes6 8 3 := fun a b => by kernel_rfl
theorem oc_8_3 : Case6 8 3 := ⟨oc_s_8_3, oc_p_8_3, oc_r_8_3, oc_g_8_3⟩
theorem oc_s_8_4 : okS (Oc.text 8 4) = true := by kernel_rfl
theorem oc_p_8_4 : parseS (Oc.text 8 4) = some (Oc.nodes 8 4) := by kernel_rfl
theorem oc_r_8_4 : recN ((8, [.str (Oc.text 8 4)], pV (Oc.nodes 8 4)) :: memo1) 14 [.str (Oc.text 8 4)] [] = some (.ret (vOc 8 4) [] 0) := by kernel_rfl
theorem oc_g_8_4 : goes6 8 4 := fun a b => by kernel_rfl
theorem oc_8_4 : Case6 8 4 := ⟨oc_s_8_4, oc_p_8_4, oc_r_8_4, oc_g_8_4⟩
theorem oc_s_8_5 : okS (Oc.text 8 5) = true := by kernel_rfl
theorem oc_p_8_5 : parseS (Oc.text 8 5) = some (Oc.nodes 8 5) := by kernel_rfl
theorem oc_r_8_5 : recN ((8, [.str (Oc.text 8 5)], pV (Oc.nodes 8 5)) :: memo1) 14 [.str (Oc.text 8 5)] [] = some (.ret (vOc 8 5) [] 0) := by kernel_rfl
theorem oc_g_8_5 : goes6 8 5 := fun a b => by kernel_rfl
theorem oc_8_5 : Case6 8 5 := ⟨oc_s_8_5, oc_p_8_5, oc_r_8_5, oc_g_8_5⟩
end Go.Proofs
