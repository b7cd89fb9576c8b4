/- runs of some texts. Part of the proof of girandolelaw09.OrderCalls. -/
import Derived.Test.YtglacbfdbfhmfaaDoorOc
set_option linter.unusedVariables false
set_option linter.unusedSimpArgs false
set_option maxRecDepth 1000000
namespace Go.Proofs
open Go Go.Abs
theorem oc_s_7_8 : okS (Oc.text 7 8) = true := by kernel_rfl
theorem oc_p_7_8 : parseS (Oc.text 7 8) = some (Oc.nodes 7 8) := by kernel_rfl
theorem oc_r_7_8 : recN ((8, [.str (Oc.text 7 8)], pV (Oc.nodes 7 8)) :: memo1) 14 [.str (Oc.text 7 8)] [] = some (.ret (vOc 7 8) [] 0) := by kernel_rfl
theorem oc_g_7_8 : goes6 7 8 := fun a b => by kernel_rfl
theorem oc_7_8 : Case6 7 8 := ⟨oc_s_7_8, oc_p_7_8, oc_r_7_8, oc_g_7_8⟩
end Go.Proofs
