/- four nodes. Part of the proof of girandolelaw12.SplitMany. -/
import Derived.Test.YtglacbfdbfhmfaaGreatDoorMany3
set_option linter.unusedVariables false
set_option linter.unusedSimpArgs false
set_option maxRecDepth 1000000
namespace Go.Proofs
open Go Go.Abs
theorem run7_3 (n : Int) : goes7 m_mp3 n 3 := by unfold goes7 reg7; kernel_rfl
end Go.Proofs
