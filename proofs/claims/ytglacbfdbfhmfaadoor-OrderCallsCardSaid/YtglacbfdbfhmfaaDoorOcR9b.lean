/- runs of some texts. Part of the proof of girandolelaw09.OrderCalls. -/
import Derived.Test.YtglacbfdbfhmfaaDoorOc
set_option linter.unusedVariables false
set_option linter.unusedSimpArgs false
set_option maxRecDepth 1000000
namespace Go.Proofs
open Go Go.Abs
theorem oc_s_9_3 : okS (Oc.text 9 3) = true := by kernel_rfl
theorem oc_p_9_3 : parseS (Oc.text 9 3) = some (Oc.nodes 9 3) := by kernel_rfl
theorem oc_r_9_3 : recN ((8, [.str (Oc.text 9 3)], pV (Oc.nodes 9 3)) :: memo1) 14 [.str (Oc.text 9 3)] [] = some (.ret (vOc 9 3) [] 0) := by kernel_rfl
theorem oc_g_9_3 : goes6 9 3 := fun a b => by kernel_rfl
theorem oc_9_3 : Case6 9 3 := ⟨oc_s_9_3, oc_p_9_3, oc_r_9_3, oc_g_9_3⟩
theorem oc_s_9_4 : okS (Oc.text 9 4) = true := by kernel_rfl
theorem oc_p_9_4 : parseS (Oc.text 9 4) = some (Oc.nodes 9 4) := by kernel_rfl
theorem oc_r_9_4 : recN ((8, [.str (Oc.text 9 4)], pV (Oc.nodes 9 4)) :: memo1) 14 [.str (Oc.text 9 4)] [] = some (.ret (vOc 9 4) [] 0) := by kernel_rfl
theorem oc_g_9_4 : goes6 9 4 := fun a b => by kernel_rfl
theorem oc_9_4 : Case6 9 4 := ⟨oc_s_9_4, oc_p_9_4, oc_r_9_4, oc_g_9_4⟩
theorem oc_s_9_5 : okS (Oc.text 9 5) = true := by kernel_rfl
theorem oc_p_9_5 : parseS (Oc.text 9 5) = some (Oc.nodes 9 5) := by kernel_rfl
theorem oc_r_9_5 : recN ((8, [.str (Oc.text 9 5)], pV (Oc.nodes 9 5)) :: memo1) 14 [.str (Oc.text 9 5)] [] = some (.ret (vOc 9 5) [] 0) := by kernel_rfl
theorem oc_g_9_5 : goes6 9 5 := fun a b => by kernel_rfl
theorem oc_9_5 : Case6 9 5 := ⟨oc_s_9_5, oc_p_9_5, oc_r_9_5, oc_g_9_5⟩
end Go.Proofs
