/- runs of some texts. Part of the proof of girandolelaw09.OrderCalls. -/
import Derived.Test.YtglacbfdbfhmfaaDoorOc
set_option linter.unusedVariables false
set_option linter.unusedSimpArgs false
set_option maxRecDepth 1000000
namespace Go.Proofs
open Go Go.Abs
theorem oc_s_10_3 : okS (Oc.text 10 3) = true := by kernel_rfl
theorem oc_p_10_3 : parseS (Oc.text 10 3) = some (Oc.nodes 10 3) := by kernel_rfl
theorem oc_r_10_3 : recN ((8, [.str (Oc.text 10 3)], pV (Oc.nodes 10 3)) :: memo1) 14 [.str (Oc.text 10 3)] [] = some (.ret (vOc 10 3) [] 0) := by kernel_rfl
theorem oc_g_10_3 : goes6 10 3 := fun a b => by kernel_rfl
theorem oc_10_3 : Case6 10 3 := ⟨oc_s_10_3, oc_p_10_3, oc_r_10_3, oc_g_10_3⟩
theorem oc_s_10_4 : okS (Oc.text 10 4) = true := by kernel_rfl
theorem oc_p_10_4 : parseS (Oc.text 10 4) = some (Oc.nodes 10 4) := by kernel_rfl
theorem oc_r_10_4 : recN ((8, [.str (Oc.text 10 4)], pV (Oc.nodes 10 4)) :: memo1) 14 [.str (Oc.text 10 4)] [] = some (.ret (vOc 10 4) [] 0) := by kernel_rfl
theorem oc_g_10_4 : goes6 10 4 := fun a b => by kernel_rfl
theorem oc_10_4 : Case6 10 4 := ⟨oc_s_10_4, oc_p_10_4, oc_r_10_4, oc_g_10_4⟩
theorem oc_s_10_5 : okS (Oc.text 10 5) = true := by kernel_rfl
theorem oc_p_10_5 : parseS (Oc.text 10 5) = some (Oc.nodes 10 5) := by kernel_rfl
theorem oc_r_10_5 : recN ((8, [.str (Oc.text 10 5)], pV (Oc.nodes 10 5)) :: memo1) 14 [.str (Oc.text 10 5)] [] = some (.ret (vOc 10 5) [] 0) := by kernel_rfl
theorem oc_g_10_5 : goes6 10 5 := fun a b => by kernel_rfl
theorem oc_10_5 : Case6 10 5 := ⟨oc_s_10_5, oc_p_10_5, oc_r_10_5, oc_g_10_5⟩
end Go.Proofs
