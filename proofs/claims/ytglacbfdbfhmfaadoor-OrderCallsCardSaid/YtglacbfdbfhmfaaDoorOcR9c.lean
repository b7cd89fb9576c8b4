/- runs of some texts. Part of the proof of girandolelaw09.OrderCalls. -/
import Derived.Test.YtglacbfdbfhmfaaDoorOc
set_option linter.unusedVariables false
set_option linter.unusedSimpArgs false
set_option maxRecDepth 1000000
namespace Go.Proofs
open Go Go.Abs
theorem oc_s_9_6 : okS (Oc.text 9 6) = true := by kernel_rfl
theorem oc_p_9_6 : parseS (Oc.text 9 6) = some (Oc.nodes 9 6) := by kernel_rfl
theorem oc_r_9_6 : recN ((8, [.str (Oc.text 9 6)], pV (Oc.nodes 9 6)) :: memo1) 14 [.str (Oc.text 9 6)] [] = some (.ret (vOc 9 6) [] 0) := by kernel_rfl
theorem oc_g_9_6 : goes6 9 6 := fun a b => by kernel_rfl
theorem oc_9_6 : Case6 9 6 := ⟨oc_s_9_6, oc_p_9_6, oc_r_9_6, oc_g_9_6⟩
theorem oc_s_9_7 : okS (Oc.text 9 7) = true := by kernel_rfl
theorem oc_p_9_7 : parseS (Oc.text 9 7) = some (Oc.nodes 9 7) := by kernel_rfl
theorem oc_r_9_7 : recN ((8, [.str (Oc.text 9 7)], pV (Oc.nodes 9 7)) :: memo1) 14 [.str (Oc.text 9 7)] [] = some (.ret (vOc 9 7) [] 0) := by kernel_rfl
theorem oc_g_9_7 : goes6 9 7 := fun a b => by kernel_rfl
theorem oc_9_7 : Case6 9 7 := ⟨oc_s_9_7, oc_p_9_7, oc_r_9_7, oc_g_9_7⟩
theorem oc_s_9_8 : okS (Oc.text 9 8) = true := by kernel_rfl
theorem oc_p_9_8 : parseS (Oc.text 9 8) = some (Oc.nodes 9 8) := by kernel_rfl
theorem oc_r_9_8 : recN ((8, [.str (Oc.text 9 8)], pV (Oc.nodes 9 8)) :: memo1) 14 [.str (Oc.text 9 8)] [] = some (.ret (vOc 9 8) [] 0) := by kernel_rfl
theorem oc_g_9_8 : goes6 9 8 := fun a b => by kernel_rfl
theorem oc_9_8 : Case6 9 8 := ⟨oc_s_9_8, oc_p_9_8, oc_r_9_8, oc_g_9_8⟩
end Go.Proofs
