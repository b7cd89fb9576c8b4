/- runs of some texts. Part of the proof of girandolelaw08.FlatClocks. -/
import Derived.Test.YtglacbfdbfhmfaaDoorFc
set_option linter.unusedVariables false
set_option linter.unusedSimpArgs false
set_option maxRecDepth 1000000
namespace Go.Proofs
open Go Go.Abs
theorem fc_s_8_0_f : okS (Fc.text 8 0 false) = true := by kernel_rfl
theorem fc_p_8_0_f : parseS (Fc.text 8 0 false) = some (Fc.nodes 8 0 false) := by kernel_rfl
theorem fc_g_8_0_f : goes4 8 0 false := fun a b => by kernel_rfl
theorem fc_8_0_f : Case4 8 0 false := ⟨fc_s_8_0_f, fc_p_8_0_f, fc_g_8_0_f⟩
theorem fc_s_8_0_t : okS (Fc.text 8 0 true) = true := by kernel_rfl
theorem fc_p_8_0_t : parseS (Fc.text 8 0 true) = some (Fc.nodes 8 0 true) := by kernel_rfl
theorem fc_g_8_0_t : goes4 8 0 true := fun a b => by kernel_rfl
theorem fc_8_0_t : Case4 8 0 true := ⟨fc_s_8_0_t, fc_p_8_0_t, fc_g_8_0_t⟩
theorem fc_s_8_1_f : okS (Fc.text 8 1 false) = true := by kernel_rfl
theorem fc_p_8_1_f : parseS (Fc.text 8 1 false) = some (Fc.nodes 8 1 false) := by kernel_rfl
theorem fc_g_8_1_f : goes4 8 1 false := fun a b => by kernel_rfl
theorem fc_8_1_f : Case4 8 1 false := ⟨fc_s_8_1_f, fc_p_8_1_f, fc_g_8_1_f⟩
theorem fc_s_8_1_t : okS (Fc.text 8 1 true) = true := by kernel_rfl
theorem fc_p_8_1_t : parseS (Fc.text 8 1 true) = some (Fc.nodes 8 1 true) := by kernel_rfl
theorem fc_g_8_1_t : goes4 8 1 true := fun a b => by kernel_rfl
theorem fc_8_1_t : Case4 8 1 true := ⟨fc_s_8_1_t, fc_p_8_1_t, fc_g_8_1_t⟩
end Go.Proofs
