/- runs of some texts. Part of the proof of girandolelaw08.FlatClocks. -/
import Derived.Test.YtglacbfdbfhmfaaDoorFc
set_option linter.unusedVariables false
set_option linter.unusedSimpArgs false
set_option maxRecDepth 1000000
namespace Go.Proofs
open Go Go.Abs
theorem fc_s_8_4_f : okS (Fc.text 8 4 false) = true := by kernel_rfl
theorem fc_p_8_4_f : parseS (Fc.text 8 4 false) = some (Fc.nodes 8 4 false) := by kernel_rfl
theorem fc_g_8_4_f : goes4 8 4 false := fun a b => by kernel_rfl
theorem fc_8_4_f : Case4 8 4 false := ⟨fc_s_8_4_f, fc_p_8_4_f, fc_g_8_4_f⟩
theorem fc_s_8_4_t : okS (Fc.text 8 4 true) = true := by kernel_rfl
theorem fc_p_8_4_t : parseS (Fc.text 8 4 true) = some (Fc.nodes 8 4 true) := by kernel_rfl
theorem fc_g_8_4_t : goes4 8 4 true := fun a b => by kernel_rfl
theorem fc_8_4_t : Case4 8 4 true := ⟨fc_s_8_4_t, fc_p_8_4_t, fc_g_8_4_t⟩
theorem fc_s_8_5_f : okS (Fc.text 8 5 false) = true := by kernel_rfl
theorem fc_p_8_5_f : parseS (Fc.text 8 5 false) = some (Fc.nodes 8 5 false) := by kernel_rfl
theorem fc_g_8_5_f : goes4 8 5 false := fun a b => by kernel_rfl
theorem fc_8_5_f : Case4 8 5 false := ⟨fc_s_8_5_f, fc_p_8_5_f, fc_g_8_5_f⟩
theorem fc_s_8_5_t : okS (Fc.text 8 5 true) = true := by kernel_rfl
theorem fc_p_8_5_t : parseS (Fc.text 8 5 true) = some (Fc.nodes 8 5 true) := by kernel_rfl
theorem fc_g_8_5_t : goes4 8 5 true := fun a b => by kernel_rfl
theorem fc_8_5_t : Case4 8 5 true := ⟨fc_s_8_5_t, fc_p_8_5_t, fc_g_8_5_t⟩
end Go.Proofs
