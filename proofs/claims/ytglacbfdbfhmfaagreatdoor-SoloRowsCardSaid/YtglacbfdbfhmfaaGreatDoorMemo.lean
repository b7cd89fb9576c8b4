/- what is known of a few calls. Part of the proof of girandolelaw11.SoloRows. -/
import Derived.Test.YtglacbfdbfhmfaaGreatDoorCode
import Derived.Test.YtglacbfdbfhmfaaGreatDoorB2
set_option linter.unusedVariables false
set_option linter.unusedSimpArgs false
set_option maxRecDepth 1000000
namespace Go.Proofs
open Go.Abs
def wordsV : AV := (.sl 1 [(.str [110,111,100,101]),(.str [114,101,116,117,114,110,115]),(.str [118,97,114]),(.str [108,101,116]),(.str [116,101,108]),(.str [105,110,116]),(.str [98,111,111,108]),(.str [102,117,116,117,114,101]),(.str [119,104,101,110]),(.str [110,111,116]),(.str [97,110,100]),(.str [111,114]),(.str [120,111,114]),(.str [105,102]),(.str [116,104,101,110]),(.str [101,108,115,101]),(.str [112,114,101]),(.str [102,98,121]),(.str [109,101,114,103,101]),(.str [97,115,121,110,99]),(.str [97,119,97,105,116]),(.str [97,102,116,101,114]),(.str [116,114,117,101]),(.str [102,97,108,115,101]),(.str [109,111,100])] .dead)
def signsV : AV := (.sl 1 [(.str [60,62]),(.str [60,61]),(.str [62,61]),(.str [45,62]),(.str [40]),(.str [41]),(.str [44]),(.str [59]),(.str [58]),(.str [61]),(.str [60]),(.str [62]),(.str [43]),(.str [45]),(.str [42]),(.str [47])] .dead)
theorem tabT : TabOk CC (tget tab) := tab_ok
theorem run_words : callZ CC (memoL []) (tget tab) 1000 165 [] [] = some (.ret wordsV [] 0) := by kernel_rfl
theorem run_signs : callZ CC (memoL []) (tget tab) 1000 145 [] [] = some (.ret signsV [] 0) := by kernel_rfl
def memo1 : List (FuncId × List AV × AV) := [(145, [], signsV), (165, [], wordsV)]
theorem memo1_ok : MemoOk CC (memoL memo1) :=
  memo_cons cc_goodF cc_scal (memo_cons cc_goodF cc_scal memo_nil memo_nil rfl (by kernel_rfl) (orc_callZ cc_mask tabT run_words)) memo_nil rfl (by kernel_rfl) (orc_callZ cc_mask tabT run_signs)
end Go.Proofs
set_option maxRecDepth 1000000
namespace Go.Proofs
open Go.Abs
def a_lexaw : List AV := [.str [110,111,100,101,32,102,40,120,58,32,105,110,116,41,32,114,101,116,117,114,110,115,32,40,121,58,32,105,110,116,41,32,108,101,116,32,121,32,61,32,48,32,45,62,32,112,114,101,32,121,32,43,32,120,59,32,116,101,108]]
def v_lexaw : AV := (.tuple [(.sl 4 [(.agg [(.int .i64 3),(.int .i64 0),(.str [110,111,100,101]),(.int .u64 0)]),(.agg [(.int .i64 1),(.int .i64 5),(.str [102]),(.int .u64 0)]),(.agg [(.int .i64 4),(.int .i64 6),(.str [40]),(.int .u64 0)]),(.agg [(.int .i64 1),(.int .i64 7),(.str [120]),(.int .u64 0)]),(.agg [(.int .i64 4),(.int .i64 8),(.str [58]),(.int .u64 0)]),(.agg [(.int .i64 3),(.int .i64 10),(.str [105,110,116]),(.int .u64 0)]),(.agg [(.int .i64 4),(.int .i64 13),(.str [41]),(.int .u64 0)]),(.agg [(.int .i64 3),(.int .i64 15),(.str [114,101,116,117,114,110,115]),(.int .u64 0)]),(.agg [(.int .i64 4),(.int .i64 23),(.str [40]),(.int .u64 0)]),(.agg [(.int .i64 1),(.int .i64 24),(.str [121]),(.int .u64 0)]),(.agg [(.int .i64 4),(.int .i64 25),(.str [58]),(.int .u64 0)]),(.agg [(.int .i64 3),(.int .i64 27),(.str [105,110,116]),(.int .u64 0)]),(.agg [(.int .i64 4),(.int .i64 30),(.str [41]),(.int .u64 0)]),(.agg [(.int .i64 3),(.int .i64 32),(.str [108,101,116]),(.int .u64 0)]),(.agg [(.int .i64 1),(.int .i64 36),(.str [121]),(.int .u64 0)]),(.agg [(.int .i64 4),(.int .i64 38),(.str [61]),(.int .u64 0)]),(.agg [(.int .i64 2),(.int .i64 40),(.str [48]),(.int .u64 0)]),(.agg [(.int .i64 4),(.int .i64 42),(.str [45,62]),(.int .u64 0)]),(.agg [(.int .i64 3),(.int .i64 45),(.str [112,114,101]),(.int .u64 0)]),(.agg [(.int .i64 1),(.int .i64 49),(.str [121]),(.int .u64 0)]),(.agg [(.int .i64 4),(.int .i64 51),(.str [43]),(.int .u64 0)]),(.agg [(.int .i64 1),(.int .i64 53),(.str [120]),(.int .u64 0)]),(.agg [(.int .i64 4),(.int .i64 54),(.str [59]),(.int .u64 0)]),(.agg [(.int .i64 3),(.int .i64 56),(.str [116,101,108]),(.int .u64 0)]),(.agg [(.int .i64 5),(.int .i64 59),(.str []),(.int .u64 0)])] .dead),(.agg [(.int .i64 0),(.int .i64 0)])])
theorem r_lexaw : callZ CC (memoL memo1) (tget tab) 3000 45 a_lexaw [] = some (.ret v_lexaw [] 0) := by kernel_rfl
def m_lexaw : List (FuncId × List AV × AV) := (45, a_lexaw, v_lexaw) :: memo1
theorem m_lexaw_ok : MemoOk CC (memoL m_lexaw) := memo_cons cc_goodF cc_scal memo1_ok memo1_ok rfl (by kernel_rfl) (orc_callZ cc_mask tabT r_lexaw)
def a_parseaw : List AV := [.str [110,111,100,101,32,102,40,120,58,32,105,110,116,41,32,114,101,116,117,114,110,115,32,40,121,58,32,105,110,116,41,32,108,101,116,32,121,32,61,32,48,32,45,62,32,112,114,101,32,121,32,43,32,120,59,32,116,101,108]]
def v_parseaw : AV := (.tuple [(.sl 6 [(.agg [(.str [102]),(.int .i64 5),(.sl 6 [(.agg [(.str [120]),(.int .i64 7),(.bool false),(.bool false),(.str []),(.bool false)])] .dead),(.sl 6 [(.agg [(.str [121]),(.int .i64 24),(.bool false),(.bool false),(.str []),(.bool false)])] .dead),.nils,(.sl 8 [(.agg [(.sl 2 [(.agg [(.str [121]),(.int .i64 36)])] .dead),(.bool false),(.int .i64 8),(.int .i64 42),(.int .i64 0),(.str []),(.bool false),(.sl 6 [(.agg [(.int .i64 1),(.int .i64 40),(.int .i64 0),(.str []),(.bool false),.nils]),(.agg [(.int .i64 6),(.int .i64 51),(.int .i64 0),(.str [43]),(.bool false),(.sl 6 [(.agg [(.int .i64 10),(.int .i64 45),(.int .i64 0),(.str []),(.bool false),(.sl 6 [(.agg [(.int .i64 3),(.int .i64 49),(.int .i64 0),(.str [121]),(.bool false),.nils])] .lit)]),(.agg [(.int .i64 3),(.int .i64 53),(.int .i64 0),(.str [120]),(.bool false),.nils])] .lit)])] .lit)])] .dead)])] .dead),(.agg [(.int .i64 0),(.int .i64 0)])])
theorem r_parseaw : callZ CC (memoL m_lexaw) (tget tab) 3000 14 a_parseaw [] = some (.ret v_parseaw [] 0) := by kernel_rfl
def m_parseaw : List (FuncId × List AV × AV) := (14, a_parseaw, v_parseaw) :: m_lexaw
theorem m_parseaw_ok : MemoOk CC (memoL m_parseaw) := memo_cons cc_goodF cc_scal m_lexaw_ok m_lexaw_ok rfl (by kernel_rfl) (orc_callZ cc_mask tabT r_parseaw)
def a_awake : List AV := []
def v_awake : AV := (.bool true)
theorem r_awake : callZ CC (memoL m_parseaw) (tget tab) 3000 13 a_awake [] = some (.ret v_awake [] 0) := by kernel_rfl
def m_awake : List (FuncId × List AV × AV) := (13, a_awake, v_awake) :: m_parseaw
theorem m_awake_ok : MemoOk CC (memoL m_awake) := memo_cons cc_goodF cc_scal m_parseaw_ok m_parseaw_ok rfl (by kernel_rfl) (orc_callZ cc_mask tabT r_awake)
end Go.Proofs
