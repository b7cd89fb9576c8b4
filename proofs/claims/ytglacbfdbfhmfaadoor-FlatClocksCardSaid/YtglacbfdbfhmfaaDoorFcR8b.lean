/- runs of some texts. Part of the proof of girandolelaw08.FlatClocks. -/
import Derived.Test.YtglacbfdbfhmfaaDoorFc
set_option linter.unusedVariables false
set_option linter.unusedSimpArgs false
set_option maxRecDepth 1000000
namespace Go.Proofs
open Go Go.Abs
theorem fc_s_8_2_f : okS (Fc.text 8 2 false) = true := by kernel_rfl
theorem fc_p_8_2_f : parseS (Fc.text 8 2 false) = some (Fc.nodes 8 2 false) := by kernel_rfl
theorem fc_g_8_2_f : goes4 8 2 false := fun a b => by kernel_rfl
theorem fc_8_2_f : Case4 8 2 false := ⟨fc_s_8_2_f, fc_p_8_2_f, fc_g_8_2_f⟩
theorem fc_s_8_2_t : okS (Fc.text 8 2 true) = true := by kernel_rfl
theorem fc_p_8_2_t : parseS (Fc.text 8 2 true) = some (Fc.nodes 8 2 true) := by kernel_rfl
theorem fc_g_8_2_t : goes4 8 2 true := fun a b => by kernel_rfl
theorem fc_8_2_t : Case4 8 2 true := ⟨fc_s_8_2_t, fc_p_8_2_t, fc_g_8_2_t⟩
theorem fc_s_8_3_f : okS (Fc.text 8 3 false) = true := by kernel_rfl
theorem fc_p_8_3_f : parseS (Fc.text 8 3 false) = some (Fc.nodes 8 3 false) := by kernel_rfl
theorem fc_g_8_3_f : goes4 8 3 false := fun a b => by kernel_rfl
theorem fc_8_3_f : Case4 8 3 false := ⟨fc_s_8_3_f, fc_p_8_3_f, fc_g_8_3_f⟩
theorem fc_s_8_3_t : okS (Fc.text 8 3 true) = true := by kernel_rfl
theorem fc_p_8_3_t : parseS (Fc.text 8 3 true) = some (Fc.nodes 8 3 true) := by kernel_rfl
theorem fc_g_8_3_t : goes4 8 3 true := fun a b => by kernel_rfl
theorem fc_8_3_t : Case4 8 3 true := ⟨fc_s_8_3_t, fc_p_8_3_t, fc_g_8_3_t⟩
end Go.Proofs
