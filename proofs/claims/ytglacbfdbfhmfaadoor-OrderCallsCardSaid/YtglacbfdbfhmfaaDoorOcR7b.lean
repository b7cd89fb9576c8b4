/- runs of some texts. Part of the proof of girandolelaw09.OrderCalls. -/
import Derived.Test.YtglacbfdbfhmfaaDoorOc
set_option linter.unusedVariables false
set_option linter.unusedSimpArgs false
set_option maxRecDepth 1000000
namespace Go.Proofs
open Go Go.Abs
theorem oc_s_7_4 : okS (Oc.text 7 4) = true := by kernel_rfl
theorem oc_p_7_4 : parseS (Oc.text 7 4) = some (Oc.nodes 7 4) := by kernel_rfl
theorem oc_r_7_4 : recN ((8, [.str (Oc.text 7 4)], pV (Oc.nodes 7 4)) :: memo1) 14 [.str (Oc.text 7 4)] [] = some (.ret (vOc 7 4) [] 0) := by kernel_rfl
theorem oc_g_7_4 : goes6 7 4 := fun a b => by kernel_rfl
theorem oc_7_4 : Case6 7 4 := ⟨oc_s_7_4, oc_p_7_4, oc_r_7_4, oc_g_7_4⟩
theorem oc_s_7_5 : okS (Oc.text 7 5) = true := by kernel_rfl
theorem oc_p_7_5 : parseS (Oc.text 7 5) = some (Oc.nodes 7 5) := by kernel_rfl
theorem oc_r_7_5 : recN ((8, [.str (Oc.text 7 5)], pV (Oc.nodes 7 5)) :: memo1) 14 [.str (Oc.text 7 5)] [] = some (.ret (vOc 7 5) [] 0) := by kernel_rfl
theorem oc_g_7_5 : goes6 7 5 := fun a b => by kernel_rfl
theorem oc_7_5 : Case6 7 5 := ⟨oc_s_7_5, oc_p_7_5, oc_r_7_5, oc_g_7_5⟩
theorem oc_s_7_6 : okS (Oc.text 7 6) = true := by kernel_rfl
theorem oc_p_7_6 : parseS (Oc.text 7 6) = some (Oc.nodes 7 6) := by kernel_rfl
theorem oc_r_7_6 : recN ((8, [.str (Oc.text 7 6)], pV (Oc.nodes 7 6)) :: memo1) 14 [.str (Oc.text 7 6)] [] = some (.ret (vOc 7 6) [] 0) := by kernel_rfl
theorem oc_g_7_6 : goes6 7 6 := fun a b => by kernel_rfl
theorem oc_7_6 : Case6 7 6 := ⟨oc_s_7_6, oc_p_7_6, oc_r_7_6, oc_g_7_6⟩
theorem oc_s_7_7 : okS (Oc.text 7 7) = true := by kernel_rfl
theorem oc_p_7_7 : parseS (Oc.text 7 7) = some (Oc.nodes 7 7) := by kernel_rfl
theorem oc_r_7_7 : recN ((8, [.str (Oc.text 7 7)], pV (Oc.nodes 7 7)) :: memo1) 14 [.str (Oc.text 7 7)] [] = some (.ret (vOc 7 7) [] 0) := by kernel_rfl
theorem oc_g_7_7 : goes6 7 7 := fun a b => by kernel_rfl
theorem oc_7_7 : Case6 7 7 := ⟨oc_s_7_7, oc_p_7_7, oc_r_7_7, oc_g_7_7⟩
end Go.Proofs
