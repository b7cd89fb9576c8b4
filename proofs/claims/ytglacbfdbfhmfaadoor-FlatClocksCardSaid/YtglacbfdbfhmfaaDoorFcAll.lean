/- the law. Part of the proof of girandolelaw08.FlatClocks. -/
import Derived.Test.YtglacbfdbfhmfaaDoorFcR1a
import Derived.Test.YtglacbfdbfhmfaaDoorFcR2a
import Derived.Test.YtglacbfdbfhmfaaDoorFcR3a
import Derived.Test.YtglacbfdbfhmfaaDoorFcR3b
import Derived.Test.YtglacbfdbfhmfaaDoorFcR4a
import Derived.Test.YtglacbfdbfhmfaaDoorFcR4b
import Derived.Test.YtglacbfdbfhmfaaDoorFcR5a
import Derived.Test.YtglacbfdbfhmfaaDoorFcR5b
import Derived.Test.YtglacbfdbfhmfaaDoorFcR6a
import Derived.Test.YtglacbfdbfhmfaaDoorFcR6b
import Derived.Test.YtglacbfdbfhmfaaDoorFcR6c
import Derived.Test.YtglacbfdbfhmfaaDoorFcR6d
import Derived.Test.YtglacbfdbfhmfaaDoorFcR7a
import Derived.Test.YtglacbfdbfhmfaaDoorFcR7b
import Derived.Test.YtglacbfdbfhmfaaDoorFcR7c
import Derived.Test.YtglacbfdbfhmfaaDoorFcR7d
import Derived.Test.YtglacbfdbfhmfaaDoorFcR8a
import Derived.Test.YtglacbfdbfhmfaaDoorFcR8b
import Derived.Test.YtglacbfdbfhmfaaDoorFcR8c
import Derived.Test.YtglacbfdbfhmfaaDoorFcR8d
import Derived.Test.YtglacbfdbfhmfaaDoorFcR8e
set_option linter.unusedVariables false
set_option linter.unusedSimpArgs false
set_option maxRecDepth 1000000
namespace Go.Proofs
open Go Go.Abs
theorem fc_all : ∀ (b : Bool) (k d : Nat), k < 8 → d < k + 2 → Case4 (k + 1) d b := by
  intro b k d hk hd
  match k, hk with
  | 0, _ => match d, hd, b with
    | 0, _, false => exact fc_1_0_f
    | 0, _, true => exact fc_1_0_t
    | 1, _, false => exact fc_1_1_f
    | 1, _, true => exact fc_1_1_t
    | d + 2, hd, _ => omega
  | 1, _ => match d, hd, b with
    | 0, _, false => exact fc_2_0_f
    | 0, _, true => exact fc_2_0_t
    | 1, _, false => exact fc_2_1_f
    | 1, _, true => exact fc_2_1_t
    | 2, _, false => exact fc_2_2_f
    | 2, _, true => exact fc_2_2_t
    | d + 3, hd, _ => omega
  | 2, _ => match d, hd, b with
    | 0, _, false => exact fc_3_0_f
    | 0, _, true => exact fc_3_0_t
    | 1, _, false => exact fc_3_1_f
    | 1, _, true => exact fc_3_1_t
    | 2, _, false => exact fc_3_2_f
    | 2, _, true => exact fc_3_2_t
    | 3, _, false => exact fc_3_3_f
    | 3, _, true => exact fc_3_3_t
    | d + 4, hd, _ => omega
  | 3, _ => match d, hd, b with
    | 0, _, false => exact fc_4_0_f
    | 0, _, true => exact fc_4_0_t
    | 1, _, false => exact fc_4_1_f
    | 1, _, true => exact fc_4_1_t
    | 2, _, false => exact fc_4_2_f
    | 2, _, true => exact fc_4_2_t
    | 3, _, false => exact fc_4_3_f
    | 3, _, true => exact fc_4_3_t
    | 4, _, false => exact fc_4_4_f
    | 4, _, true => exact fc_4_4_t
    | d + 5, hd, _ => omega
  | 4, _ => match d, hd, b with
    | 0, _, false => exact fc_5_0_f
    | 0, _, true => exact fc_5_0_t
    | 1, _, false => exact fc_5_1_f
    | 1, _, true => exact fc_5_1_t
    | 2, _, false => exact fc_5_2_f
    | 2, _, true => exact fc_5_2_t
    | 3, _, false => exact fc_5_3_f
    | 3, _, true => exact fc_5_3_t
    | 4, _, false => exact fc_5_4_f
    | 4, _, true => exact fc_5_4_t
    | 5, _, false => exact fc_5_5_f
    | 5, _, true => exact fc_5_5_t
    | d + 6, hd, _ => omega
  | 5, _ => match d, hd, b with
    | 0, _, false => exact fc_6_0_f
    | 0, _, true => exact fc_6_0_t
    | 1, _, false => exact fc_6_1_f
    | 1, _, true => exact fc_6_1_t
    | 2, _, false => exact fc_6_2_f
    | 2, _, true => exact fc_6_2_t
    | 3, _, false => exact fc_6_3_f
    | 3, _, true => exact fc_6_3_t
    | 4, _, false => exact fc_6_4_f
    | 4, _, true => exact fc_6_4_t
    | 5, _, false => exact fc_6_5_f
    | 5, _, true => exact fc_6_5_t
    | 6, _, false => exact fc_6_6_f
    | 6, _, true => exact fc_6_6_t
    | d + 7, hd, _ => omega
  | 6, _ => match d, hd, b with
    | 0, _, false => exact fc_7_0_f
    | 0, _, true => exact fc_7_0_t
    | 1, _, false => exact fc_7_1_f
    | 1, _, true => exact fc_7_1_t
    | 2, _, false => exact fc_7_2_f
    | 2, _, true => exact fc_7_2_t
    | 3, _, false => exact fc_7_3_f
    | 3, _, true => exact fc_7_3_t
    | 4, _, false => exact fc_7_4_f
    | 4, _, true => exact fc_7_4_t
    | 5, _, false => exact fc_7_5_f
    | 5, _, true => exact fc_7_5_t
    | 6, _, false => exact fc_7_6_f
    | 6, _, true => exact fc_7_6_t
    | 7, _, false => exact fc_7_7_f
    | 7, _, true => exact fc_7_7_t
    | d + 8, hd, _ => omega
  | 7, _ => match d, hd, b with
    | 0, _, false => exact fc_8_0_f
    | 0, _, true => exact fc_8_0_t
    | 1, _, false => exact fc_8_1_f
    | 1, _, true => exact fc_8_1_t
    | 2, _, false => exact fc_8_2_f
    | 2, _, true => exact fc_8_2_t
    | 3, _, false => exact fc_8_3_f
    | 3, _, true => exact fc_8_3_t
    | 4, _, false => exact fc_8_4_f
    | 4, _, true => exact fc_8_4_t
    | 5, _, false => exact fc_8_5_f
    | 5, _, true => exact fc_8_5_t
    | 6, _, false => exact fc_8_6_f
    | 6, _, true => exact fc_8_6_t
    | 7, _, false => exact fc_8_7_f
    | 7, _, true => exact fc_8_7_t
    | 8, _, false => exact fc_8_8_f
    | 8, _, true => exact fc_8_8_t
    | d + 9, hd, _ => omega
  | k + 8, hk => omega
theorem law4_all (a b : Int) (sy : Bool) : ∃ M, MemoOk CC M ∧ orc CC M 4 [.int .i64 a, .int .i64 b, .bool sy] [] = some (.ret (.bool true) [] 0) := law4 a b sy (fc_all sy)
end Go.Proofs
