/- runs of some texts. Part of the proof of girandolelaw09.OrderCalls. -/
import Derived.Test.YtglacbfdbfhmfaaDoorOc
set_option linter.unusedVariables false
set_option linter.unusedSimpArgs false
set_option maxRecDepth 1000000
namespace Go.Proofs
open Go Go.Abs
theorem oc_s_10_6 : okS (Oc.text 10 6) = true := by kernel_rfl
theorem oc_p_10_6 : parseS (Oc.text 10 6) = some (Oc.nodes 10 6) := by kernel_rfl
theorem oc_r_10_6 : recN ((8, [.str (Oc.text 10 6)], pV (Oc.nodes 10 6)) :: memo1) 14 [.str (Oc.text 10 6)] [] = some (.ret (vOc 10 6) [] 0) := by kernel_rfl
theorem oc_g_10_6 : goes6 10 6 := fun a b => by kernel_rfl
theorem oc_10_6 : Case6 10 6 := ⟨oc_s_10_6, oc_p_10_6, oc_r_10_6, oc_g_10_6⟩
theorem oc_s_10_7 : okS (Oc.text 10 7) = true := by kernel_rfl
theorem oc_p_10_7 : parseS (Oc.text 10 7) = some (Oc.nodes 10 7) := by kernel_rfl
theorem oc_r_10_7 : recN ((8, [.str (Oc.text 10 7)], pV (Oc.nodes 10 7)) :: memo1) 14 [.str (Oc.text 10 7)] [] = some (.ret (vOc 10 7) [] 0) := by kernel_rfl
theorem oc_g_10_7 : goes6 10 7 := fun a b => by kernel_rfl
theorem oc_10_7 : Case6 10 7 := ⟨oc_s_10_7, oc_p_10_7, oc_r_10_7, oc_g_10_7⟩
theorem oc_s_10_8 : okS (Oc.text 10 8) = true := by kernel_rfl
theorem oc_p_10_8 : parseS (Oc.text 10 8) = some (Oc.nodes 10 8) := by kernel_rfl
theorem oc_r_10_8 : recN ((8, [.str (Oc.text 10 8)], pV (Oc.nodes 10 8)) :: memo1) 14 [.str (Oc.text 10 8)] [] = some (.ret (vOc 10 8) [] 0) := by kernel_rfl
theorem oc_g_10_8 : goes6 10 8 := fun a b => by kernel_rfl
theorem oc_10_8 : Case6 10 8 := ⟨oc_s_10_8, oc_p_10_8, oc_r_10_8, oc_g_10_8⟩
end Go.Proofs
