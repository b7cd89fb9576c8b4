/- the law. Part of the proof of girandolelaw09.OrderCalls. -/
import Derived.Test.YtglacbfdbfhmfaaDoorOcR1a
import Derived.Test.YtglacbfdbfhmfaaDoorOcR2a
import Derived.Test.YtglacbfdbfhmfaaDoorOcR3a
import Derived.Test.YtglacbfdbfhmfaaDoorOcR4a
import Derived.Test.YtglacbfdbfhmfaaDoorOcR5a
import Derived.Test.YtglacbfdbfhmfaaDoorOcR5b
import Derived.Test.YtglacbfdbfhmfaaDoorOcR6a
import Derived.Test.YtglacbfdbfhmfaaDoorOcR6b
import Derived.Test.YtglacbfdbfhmfaaDoorOcR7a
import Derived.Test.YtglacbfdbfhmfaaDoorOcR7b
import Derived.Test.YtglacbfdbfhmfaaDoorOcR7c
import Derived.Test.YtglacbfdbfhmfaaDoorOcR8a
import Derived.Test.YtglacbfdbfhmfaaDoorOcR8b
import Derived.Test.YtglacbfdbfhmfaaDoorOcR8c
import Derived.Test.YtglacbfdbfhmfaaDoorOcR8d
import Derived.Test.YtglacbfdbfhmfaaDoorOcR9a
import Derived.Test.YtglacbfdbfhmfaaDoorOcR9b
import Derived.Test.YtglacbfdbfhmfaaDoorOcR9c
import Derived.Test.YtglacbfdbfhmfaaDoorOcR9d
import Derived.Test.YtglacbfdbfhmfaaDoorOcR10a
import Derived.Test.YtglacbfdbfhmfaaDoorOcR10b
import Derived.Test.YtglacbfdbfhmfaaDoorOcR10c
import Derived.Test.YtglacbfdbfhmfaaDoorOcR10d
set_option linter.unusedVariables false
set_option linter.unusedSimpArgs false
set_option maxRecDepth 1000000
namespace Go.Proofs
open Go Go.Abs
theorem oc_all : ∀ k d, k < 10 → d < k + 3 → Case6 (k + 1) d := by
  intro k d hk hd
  match k, hk with
  | 0, _ => match d, hd with
    | 0, _ => exact oc_1_0
    | 1, _ => exact oc_1_1
    | 2, _ => exact oc_1_2
    | d + 3, hd => omega
  | 1, _ => match d, hd with
    | 0, _ => exact oc_2_0
    | 1, _ => exact oc_2_1
    | 2, _ => exact oc_2_2
    | 3, _ => exact oc_2_3
    | d + 4, hd => omega
  | 2, _ => match d, hd with
    | 0, _ => exact oc_3_0
    | 1, _ => exact oc_3_1
    | 2, _ => exact oc_3_2
    | 3, _ => exact oc_3_3
    | 4, _ => exact oc_3_4
    | d + 5, hd => omega
  | 3, _ => match d, hd with
    | 0, _ => exact oc_4_0
    | 1, _ => exact oc_4_1
    | 2, _ => exact oc_4_2
    | 3, _ => exact oc_4_3
    | 4, _ => exact oc_4_4
    | 5, _ => exact oc_4_5
    | d + 6, hd => omega
  | 4, _ => match d, hd with
    | 0, _ => exact oc_5_0
    | 1, _ => exact oc_5_1
    | 2, _ => exact oc_5_2
    | 3, _ => exact oc_5_3
    | 4, _ => exact oc_5_4
    | 5, _ => exact oc_5_5
    | 6, _ => exact oc_5_6
    | d + 7, hd => omega
  | 5, _ => match d, hd with
    | 0, _ => exact oc_6_0
    | 1, _ => exact oc_6_1
    | 2, _ => exact oc_6_2
    | 3, _ => exact oc_6_3
    | 4, _ => exact oc_6_4
    | 5, _ => exact oc_6_5
    | 6, _ => exact oc_6_6
    | 7, _ => exact oc_6_7
    | d + 8, hd => omega
  | 6, _ => match d, hd with
    | 0, _ => exact oc_7_0
    | 1, _ => exact oc_7_1
    | 2, _ => exact oc_7_2
    | 3, _ => exact oc_7_3
    | 4, _ => exact oc_7_4
    | 5, _ => exact oc_7_5
    | 6, _ => exact oc_7_6
    | 7, _ => exact oc_7_7
    | 8, _ => exact oc_7_8
    | d + 9, hd => omega
  | 7, _ => match d, hd with
    | 0, _ => exact oc_8_0
    | 1, _ => exact oc_8_1
    | 2, _ => exact oc_8_2
    | 3, _ => exact oc_8_3
    | 4, _ => exact oc_8_4
    | 5, _ => exact oc_8_5
    | 6, _ => exact oc_8_6
    | 7, _ => exact oc_8_7
    | 8, _ => exact oc_8_8
    | 9, _ => exact oc_8_9
    | d + 10, hd => omega
  | 8, _ => match d, hd with
    | 0, _ => exact oc_9_0
    | 1, _ => exact oc_9_1
    | 2, _ => exact oc_9_2
    | 3, _ => exact oc_9_3
    | 4, _ => exact oc_9_4
    | 5, _ => exact oc_9_5
    | 6, _ => exact oc_9_6
    | 7, _ => exact oc_9_7
    | 8, _ => exact oc_9_8
    | 9, _ => exact oc_9_9
    | 10, _ => exact oc_9_10
    | d + 11, hd => omega
  | 9, _ => match d, hd with
    | 0, _ => exact oc_10_0
    | 1, _ => exact oc_10_1
    | 2, _ => exact oc_10_2
    | 3, _ => exact oc_10_3
    | 4, _ => exact oc_10_4
    | 5, _ => exact oc_10_5
    | 6, _ => exact oc_10_6
    | 7, _ => exact oc_10_7
    | 8, _ => exact oc_10_8
    | 9, _ => exact oc_10_9
    | 10, _ => exact oc_10_10
    | 11, _ => exact oc_10_11
    | d + 12, hd => omega
  | k + 10, hk => omega
theorem law6_all (a b : Int) : ∃ M, MemoOk CC M ∧ orc CC M 6 [.int .i64 a, .int .i64 b] [] = some (.ret (.bool true) [] 0) := law6 a b oc_all
end Go.Proofs
