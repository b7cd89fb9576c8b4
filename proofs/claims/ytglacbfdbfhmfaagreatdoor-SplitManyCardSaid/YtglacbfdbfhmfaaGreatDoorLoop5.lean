/- six nodes, the workers. Part of the proof of girandolelaw12.SplitMany. -/
import Derived.Test.YtglacbfdbfhmfaaGreatDoorRun5
set_option linter.unusedVariables false
set_option linter.unusedSimpArgs false
set_option maxRecDepth 1000000
namespace Go.Proofs
open Go Go.Abs
theorem loop_5 (r : RG) : finZ CC 19 1 z19 (seqK (rest19 (rec7 m_mp5)) (blkK 0 (loopZ (q19_14 (rec7 m_mp5)) (reg19 r) [] ⟨H0_5, 1⟩))) = some (.ret (.tuple [.nilp, .agg [.int .i64 5, .int .i64 14]]) [cZ0] 1) := by kernel_rfl
end Go.Proofs
