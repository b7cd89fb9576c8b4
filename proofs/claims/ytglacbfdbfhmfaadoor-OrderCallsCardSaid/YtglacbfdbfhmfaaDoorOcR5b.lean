/- runs of some texts. Part of the proof of girandolelaw09.OrderCalls. -/
import Derived.Test.YtglacbfdbfhmfaaDoorOc
set_option linter.unusedVariables false
set_option linter.unusedSimpArgs false
set_option maxRecDepth 1000000
namespace Go.Proofs
open Go Go.Abs
theorem oc_s_5_4 : okS (Oc.text 5 4) = true := by kernel_rfl
theorem oc_p_5_4 : parseS (Oc.text 5 4) = some (Oc.nodes 5 4) := by kernel_rfl
theorem oc_r_5_4 : recN ((8, [.str (Oc.text 5 4)], pV (Oc.nodes 5 4)) :: memo1) 14 [.str (Oc.text 5 4)] [] = some (.ret (vOc 5 4) [] 0) := by kernel_rfl
theorem oc_g_5_4 : goes6 5 4 := fun a b => by kernel_rfl
theorem oc_5_4 : Case6 5 4 := ⟨oc_s_5_4, oc_p_5_4, oc_r_5_4, oc_g_5_4⟩
theorem oc_s_5_5 : okS (Oc.text 5 5) = true := by kernel_rfl
theorem oc_p_5_5 : parseS (Oc.text 5 5) = some (Oc.nodes 5 5) := by kernel_rfl
theorem oc_r_5_5 : recN ((8, [.str (Oc.text 5 5)], pV (Oc.nodes 5 5)) :: memo1) 14 [.str (Oc.text 5 5)] [] = some (.ret (vOc 5 5) [] 0) := by kernel_rfl
theorem oc_g_5_5 : goes6 5 5 := fun a b => by kernel_rfl
theorem oc_5_5 : Case6 5 5 := ⟨oc_s_5_5, oc_p_5_5, oc_r_5_5, oc_g_5_5⟩
theorem oc_s_5_6 : okS (Oc.text 5 6) = true := by kernel_rfl
theorem oc_p_5_6 : parseS (Oc.text 5 6) = some (Oc.nodes 5 6) := by kernel_rfl
theorem oc_r_5_6 : recN ((8, [.str (Oc.text 5 6)], pV (Oc.nodes 5 6)) :: memo1) 14 [.str (Oc.text 5 6)] [] = some (.ret (vOc 5 6) [] 0) := by kernel_rfl
theorem oc_g_5_6 : goes6 5 6 := fun a b => by kernel_rfl
theorem oc_5_6 : Case6 5 6 := ⟨oc_s_5_6, oc_p_5_6, oc_r_5_6, oc_g_5_6⟩
end Go.Proofs
