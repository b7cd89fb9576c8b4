/- runs of some texts. Part of the proof of girandolelaw09.OrderCalls. -/
import Derived.Test.YtglacbfdbfhmfaaDoorOc
set_option linter.unusedVariables false
set_option linter.unusedSimpArgs false
set_option maxRecDepth 1000000
namespace Go.Proofs
open Go Go.Abs
theorem oc_s_8_6 : okS (Oc.text 8 6) = true := by kernel_rfl
theorem oc_p_8_6 : parseS (Oc.text 8 6) = some (Oc.nodes 8 6) := by kernel_rfl
theorem oc_r_8_6 : recN ((8, [.str (Oc.text 8 6)], pV (Oc.nodes 8 6)) :: memo1) 14 [.str (Oc.text 8 6)] [] = some (.ret (vOc 8 6) [] 0) := by kernel_rfl
theorem oc_g_8_6 : goes6 8 6 := fun a b => by kernel_rfl
theorem oc_8_6 : Case6 8 6 := ⟨oc_s_8_6, oc_p_8_6, oc_r_8_6, oc_g_8_6⟩
theorem oc_s_8_7 : okS (Oc.text 8 7) = true := by kernel_rfl
theorem oc_p_8_7 : parseS (Oc.text 8 7) = some (Oc.nodes 8 7) := by kernel_rfl
theorem oc_r_8_7 : recN ((8, [.str (Oc.text 8 7)], pV (Oc.nodes 8 7)) :: memo1) 14 [.str (Oc.text 8 7)] [] = some (.ret (vOc 8 7) [] 0) := by kernel_rfl
theorem oc_g_8_7 : goes6 8 7 := fun a b => by kernel_rfl
theorem oc_8_7 : Case6 8 7 := ⟨oc_s_8_7, oc_p_8_7, oc_r_8_7, oc_g_8_7⟩
theorem oc_s_8_8 : okS (Oc.text 8 8) = true := by kernel_rfl
theorem oc_p_8_8 : parseS (Oc.text 8 8) = some (Oc.nodes 8 8) := by kernel_rfl
theorem oc_r_8_8 : recN ((8, [.str (Oc.text 8 8)], pV (Oc.nodes 8 8)) :: memo1) 14 [.str (Oc.text 8 8)] [] = some (.ret (vOc 8 8) [] 0) := by kernel_rfl
theorem oc_g_8_8 : goes6 8 8 := fun a b => by kernel_rfl
theorem oc_8_8 : Case6 8 8 := ⟨oc_s_8_8, oc_p_8_8, oc_r_8_8, oc_g_8_8⟩
end Go.Proofs
