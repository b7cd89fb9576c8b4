/- runs of some texts. Part of the proof of girandolelaw09.OrderCalls. -/
import Derived.Test.YtglacbfdbfhmfaaDoorOc
set_option linter.unusedVariables false
set_option linter.unusedSimpArgs false
set_option maxRecDepth 1000000
namespace Go.Proofs
open Go Go.Abs
theorem oc_s_6_4 : okS (Oc.text 6 4) = true := by kernel_rfl
theorem oc_p_6_4 : parseS (Oc.text 6 4) = some (Oc.nodes 6 4) := by kernel_rfl
theorem oc_r_6_4 : recN ((8, [.str (Oc.text 6 4)], pV (Oc.nodes 6 4)) :: memo1) 14 [.str (Oc.text 6 4)] [] = some (.ret (vOc 6 4) [] 0) := by kernel_rfl
theorem oc_g_6_4 : goes6 6 4 := fun a b => by kernel_rfl
theorem oc_6_4 : Case6 6 4 := ⟨oc_s_6_4, oc_p_6_4, oc_r_6_4, oc_g_6_4⟩
theorem oc_s_6_5 : okS (Oc.text 6 5) = true := by kernel_rfl
theorem oc_p_6_5 : parseS (Oc.text 6 5) = some (Oc.nodes 6 5) := by kernel_rfl
theorem oc_r_6_5 : recN ((8, [.str (Oc.text 6 5)], pV (Oc.nodes 6 5)) :: memo1) 14 [.str (Oc.text 6 5)] [] = some (.ret (vOc 6 5) [] 0) := by kernel_rfl
theorem oc_g_6_5 : goes6 6 5 := fun a b => by kernel_rfl
theorem oc_6_5 : Case6 6 5 := ⟨oc_s_6_5, oc_p_6_5, oc_r_6_5, oc_g_6_5⟩
theorem oc_s_6_6 : okS (Oc.text 6 6) = true := by kernel_rfl
theorem oc_p_6_6 : parseS (Oc.text 6 6) = some (Oc.nodes 6 6) := by kernel_rfl
theorem oc_r_6_6 : recN ((8, [.str (Oc.text 6 6)], pV (Oc.nodes 6 6)) :: memo1) 14 [.str (Oc.text 6 6)] [] = some (.ret (vOc 6 6) [] 0) := by kernel_rfl
theorem oc_g_6_6 : goes6 6 6 := fun a b => by kernel_rfl
theorem oc_6_6 : Case6 6 6 := ⟨oc_s_6_6, oc_p_6_6, oc_r_6_6, oc_g_6_6⟩
theorem oc_s_6_7 : okS (Oc.text 6 7) = true := by kernel_rfl
theorem oc_p_6_7 : parseS (Oc.text 6 7) = some (Oc.nodes 6 7) := by kernel_rfl
theorem oc_r_6_7 : recN ((8, [.str (Oc.text 6 7)], pV (Oc.nodes 6 7)) :: memo1) 14 [.str (Oc.text 6 7)] [] = some (.ret (vOc 6 7) [] 0) := by kernel_rfl
theorem oc_g_6_7 : goes6 6 7 := fun a b => by kernel_rfl
theorem oc_6_7 : Case6 6 7 := ⟨oc_s_6_7, oc_p_6_7, oc_r_6_7, oc_g_6_7⟩
end Go.Proofs
