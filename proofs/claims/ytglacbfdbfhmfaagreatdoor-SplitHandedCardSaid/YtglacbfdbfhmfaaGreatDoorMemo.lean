/- what is known of a few calls. Part of the proof of girandolelaw12.SplitHanded. -/
import Derived.Test.YtglacbfdbfhmfaaGreatDoorCode1
import Derived.Test.YtglacbfdbfhmfaaGreatDoorB2
set_option linter.unusedVariables false
set_option linter.unusedSimpArgs false
set_option maxRecDepth 1000000
namespace Go.Proofs
open Go.Abs
def wordsV:AV:=(.sl 1 [(.str [110,111,100,101]),(.str [114,101,116,117,114,110,115]),(.str [118,97,114]),(.str [108,101,116]),(.str [116,101,108]),(.str [105,110,116]),(.str [98,111,111,108]),(.str [102,117,116,117,114,101]),(.str [119,104,101,110]),(.str [110,111,116]),(.str [97,110,100]),(.str [111,114]),(.str [120,111,114]),(.str [105,102]),(.str [116,104,101,110]),(.str [101,108,115,101]),(.str [112,114,101]),(.str [102,98,121]),(.str [109,101,114,103,101]),(.str [97,115,121,110,99]),(.str [97,119,97,105,116]),(.str [97,102,116,101,114]),(.str [116,114,117,101]),(.str [102,97,108,115,101]),(.str [109,111,100])] .dead)
def signsV:AV:=(.sl 1 [(.str [60,62]),(.str [60,61]),(.str [62,61]),(.str [45,62]),(.str [40]),(.str [41]),(.str [44]),(.str [59]),(.str [58]),(.str [61]),(.str [60]),(.str [62]),(.str [43]),(.str [45]),(.str [42]),(.str [47])] .dead)
theorem tabT:ky CC (ij tab):=tab_ok
theorem run_words:callZ CC (memoL []) (ij tab) 1000 165 [] []=some (.ret wordsV [] 0):=by kernel_rfl
theorem run_signs:callZ CC (memoL []) (ij tab) 1000 145 [] []=some (.ret signsV [] 0):=by kernel_rfl
def memo1:List (FuncId×List AV×AV):=[(145,[],signsV),(165,[],wordsV)]
theorem memo1_ok:ek CC (memoL memo1) :=
 i2 cc_goodF cc_scal (i2 cc_goodF cc_scal memo_nil memo_nil rfl (by kernel_rfl) (qg cc_mask tabT run_words)) memo_nil rfl (by kernel_rfl) (qg cc_mask tabT run_signs)
end Go.Proofs
