/- runs of some texts. Part of the proof of girandolelaw08.FlatClocks. -/
import Derived.Test.YtglacbfdbfhmfaaDoorFc
set_option linter.unusedVariables false
set_option linter.unusedSimpArgs false
set_option maxRecDepth 1000000
namespace Go.Proofs
open Go Go.Abs
theorem fc_s_6_6_f : okS (Fc.text 6 6 false) = true := by kernel_rfl
theorem fc_p_6_6_f : parseS (Fc.text 6 6 false) = some (Fc.nodes 6 6 false) := by kernel_rfl
theorem fc_g_6_6_f : goes4 6 6 false := fun a b => by kernel_rfl
theorem fc_6_6_f : Case4 6 6 false := ⟨fc_s_6_6_f, fc_p_6_6_f, fc_g_6_6_f⟩
theorem fc_s_6_6_t : okS (Fc.text 6 6 true) = true := by kernel_rfl
theorem fc_p_6_6_t : parseS (Fc.text 6 6 true) = some (Fc.nodes 6 6 true) := by kernel_rfl
theorem fc_g_6_6_t : goes4 6 6 true := fun a b => by kernel_rfl
theorem fc_6_6_t : Case4 6 6 true := ⟨fc_s_6_6_t, fc_p_6_6_t, fc_g_6_6_t⟩
end Go.Proofs
