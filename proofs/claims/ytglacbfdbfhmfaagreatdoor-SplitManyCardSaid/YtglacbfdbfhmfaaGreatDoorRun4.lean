/- five nodes. Part of the proof of girandolelaw12.SplitMany. -/
import Derived.Test.YtglacbfdbfhmfaaGreatDoorMany4
set_option linter.unusedVariables false
set_option linter.unusedSimpArgs false
set_option maxRecDepth 1000000
namespace Go.Proofs
open Go Go.Abs
noncomputable section
def nd4 : AV := match v_mp4 with
  | .tuple (x :: _) => x
  | _ => .top
end
theorem s19_4 : rec7 m_mp4 19 [nd4] [.cells [.int .i64 0, .int .i64 0]] = some (.ret (.tuple [.nilp, .agg [.int .i64 5, .int .i64 14]]) [.cells [.int .i64 0, .int .i64 0]] 1) := by kernel_rfl
end Go.Proofs
