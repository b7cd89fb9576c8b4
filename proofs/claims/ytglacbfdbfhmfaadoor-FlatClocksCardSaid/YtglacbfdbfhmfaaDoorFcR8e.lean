/- runs of some texts. Part of the proof of girandolelaw08.FlatClocks. -/
import Derived.Test.YtglacbfdbfhmfaaDoorFc
set_option linter.unusedVariables false
set_option linter.unusedSimpArgs false
set_option maxRecDepth 1000000
namespace Go.Proofs
open Go Go.Abs
theorem fc_s_8_8_f : okS (Fc.text 8 8 false) = true := by kernel_rfl
theorem fc_p_8_8_f : parseS (Fc.text 8 8 false) = some (Fc.nodes 8 8 false) := by kernel_rfl
theorem fc_g_8_8_f : goes4 8 8 false := fun a b => by kernel_rfl
theorem fc_8_8_f : Case4 8 8 false := ⟨fc_s_8_8_f, fc_p_8_8_f, fc_g_8_8_f⟩
theorem fc_s_8_8_t : okS (Fc.text 8 8 true) = true := by kernel_rfl
theorem fc_p_8_8_t : parseS (Fc.text 8 8 true) = some (Fc.nodes 8 8 true) := by kernel_rfl
theorem fc_g_8_8_t : goes4 8 8 true := fun a b => by kernel_rfl
theorem fc_8_8_t : Case4 8 8 true := ⟨fc_s_8_8_t, fc_p_8_8_t, fc_g_8_8_t⟩
end Go.Proofs
