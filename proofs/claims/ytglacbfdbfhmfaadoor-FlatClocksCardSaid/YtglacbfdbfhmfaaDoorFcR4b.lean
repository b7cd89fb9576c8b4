/- runs of some texts. Part of the proof of girandolelaw08.FlatClocks. -/
import Derived.Test.YtglacbfdbfhmfaaDoorFc
set_option linter.unusedVariables false
set_option linter.unusedSimpArgs false
set_option maxRecDepth 1000000
namespace Go.Proofs
open Go Go.Abs
theorem fc_s_4_3_f : okS (Fc.text 4 3 false) = true := by kernel_rfl
theorem fc_p_4_3_f : parseS (Fc.text 4 3 false) = some (Fc.nodes 4 3 false) := by kernel_rfl
theorem fc_g_4_3_f : goes4 4 3 false := fun a b => by kernel_rfl
theorem fc_4_3_f : Case4 4 3 false := ⟨fc_s_4_3_f, fc_p_4_3_f, fc_g_4_3_f⟩
theorem fc_s_4_3_t : okS (Fc.text 4 3 true) = true := by kernel_rfl
theorem fc_p_4_3_t : parseS (Fc.text 4 3 true) = some (Fc.nodes 4 3 true) := by kernel_rfl
theorem fc_g_4_3_t : goes4 4 3 true := fun a b => by kernel_rfl
theorem fc_4_3_t : Case4 4 3 true := ⟨fc_s_4_3_t, fc_p_4_3_t, fc_g_4_3_t⟩
theorem fc_s_4_4_f : okS (Fc.text 4 4 false) = true := by kernel_rfl
theorem fc_p_4_4_f : parseS (Fc.text 4 4 false) = some (Fc.nodes 4 4 false) := by kernel_rfl
theorem fc_g_4_4_f : goes4 4 4 false := fun a b => by kernel_rfl
theorem fc_4_4_f : Case4 4 4 false := ⟨fc_s_4_4_f, fc_p_4_4_f, fc_g_4_4_f⟩
theorem fc_s_4_4_t : okS (Fc.text 4 4 true) = true := by kernel_rfl
theorem fc_p_4_4_t : parseS (Fc.text 4 4 true) = some (Fc.nodes 4 4 true) := by kernel_rfl
theorem fc_g_4_4_t : goes4 4 4 true := fun a b => by kernel_rfl
theorem fc_4_4_t : Case4 4 4 true := ⟨fc_s_4_4_t, fc_p_4_4_t, fc_g_4_4_t⟩
end Go.Proofs
