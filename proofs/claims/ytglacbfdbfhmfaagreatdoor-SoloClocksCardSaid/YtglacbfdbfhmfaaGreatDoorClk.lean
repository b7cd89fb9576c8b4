/- the law, instant by instant. Part of the proof of girandolelaw11.SoloClocks. -/
import Derived.Test.YtglacbfdbfhmfaaGreatDoorPar
set_option linter.unusedVariables false
set_option linter.unusedSimpArgs false
set_option maxRecDepth 1000000
namespace Go.Proofs
open Go Go.Abs
theorem memo1_par : ParKM (memoL memo1) := { memo1_fresh with par := parM_of (by decide) }
def ndC0 : List AV := [(.str [99,111,117,110,116]),(.int .i64 5),(.sl 6 [(.agg [(.str [97]),(.int .i64 11),(.bool false),(.bool false),(.str []),(.bool false)])] .dead),(.sl 6 [(.agg [(.str [110]),(.int .i64 28),(.bool false),(.bool false),(.str []),(.bool false)])] .dead),.nils,(.sl 8 [(.agg [(.sl 2 [(.agg [(.str [110]),(.int .i64 40)])] .dead),(.bool false),(.int .i64 8),(.int .i64 46),(.int .i64 0),(.str []),(.bool false),(.sl 6 [(.agg [(.int .i64 3),(.int .i64 44),(.int .i64 0),(.str [97]),(.bool false),.nils]),(.agg [(.int .i64 6),(.int .i64 55),(.int .i64 0),(.str [43]),(.bool false),(.sl 6 [(.agg [(.int .i64 10),(.int .i64 49),(.int .i64 0),(.str []),(.bool false),(.sl 6 [(.agg [(.int .i64 3),(.int .i64 53),(.int .i64 0),(.str [110]),(.bool false),.nils])] .lit)]),(.agg [(.int .i64 3),(.int .i64 57),(.int .i64 0),(.str [97]),(.bool false),.nils])] .lit)])] .lit)])] .dead)]
def ndC1 : List AV := [(.str [102]),(.int .i64 69),(.sl 6 [(.agg [(.str [99]),(.int .i64 71),(.bool true),(.bool false),(.str []),(.bool false)])] .dead),(.sl 6 [(.agg [(.str [121]),(.int .i64 89),(.bool false),(.bool false),(.str []),(.bool false)]),(.agg [(.str [122]),(.int .i64 97),(.bool false),(.bool false),(.str []),(.bool false)])] .dead),(.sl 6 [(.agg [(.str [116]),(.int .i64 109),(.bool false),(.bool false),(.str [99]),(.bool false)]),(.agg [(.str [117]),(.int .i64 124),(.bool false),(.bool false),(.str [99]),(.bool true)])] .dead),(.sl 8 [(.agg [(.sl 2 [(.agg [(.str [116]),(.int .i64 147)])] .dead),(.bool false),(.int .i64 13),(.int .i64 151),(.int .i64 0),(.str [99,111,117,110,116]),(.bool false),(.sl 6 [(.agg [(.int .i64 11),(.int .i64 159),(.int .i64 0),(.str [99]),(.bool false),(.sl 6 [(.agg [(.int .i64 1),(.int .i64 157),(.int .i64 1),(.str []),(.bool false),.nils])] .lit)])] .lit)]),(.agg [(.sl 2 [(.agg [(.str [117]),(.int .i64 168)])] .dead),(.bool false),(.int .i64 9),(.int .i64 174),(.int .i64 0),(.str []),(.bool false),(.sl 6 [(.agg [(.int .i64 1),(.int .i64 172),(.int .i64 0),(.str []),(.bool false),.nils]),(.agg [(.int .i64 6),(.int .i64 181),(.int .i64 0),(.str [43]),(.bool false),(.sl 6 [(.agg [(.int .i64 3),(.int .i64 179),(.int .i64 0),(.str [117]),(.bool false),.nils]),(.agg [(.int .i64 1),(.int .i64 183),(.int .i64 1),(.str []),(.bool false),.nils])] .lit)])] .lit)]),(.agg [(.sl 2 [(.agg [(.str [121]),(.int .i64 187)])] .dead),(.bool false),(.int .i64 12),(.int .i64 191),(.int .i64 0),(.str [99]),(.bool false),(.sl 6 [(.agg [(.int .i64 3),(.int .i64 200),(.int .i64 0),(.str [116]),(.bool false),.nils]),(.agg [(.int .i64 11),(.int .i64 217),(.int .i64 0),(.str [99]),(.bool true),(.sl 6 [(.agg [(.int .i64 8),(.int .i64 207),(.int .i64 0),(.str []),(.bool false),(.sl 6 [(.agg [(.int .i64 1),(.int .i64 205),(.int .i64 0),(.str []),(.bool false),.nils]),(.agg [(.int .i64 10),(.int .i64 210),(.int .i64 0),(.str []),(.bool false),(.sl 6 [(.agg [(.int .i64 3),(.int .i64 214),(.int .i64 0),(.str [121]),(.bool false),.nils])] .lit)])] .lit)])] .lit)])] .dead)]),(.agg [(.sl 2 [(.agg [(.str [122]),(.int .i64 230)])] .dead),(.bool false),(.int .i64 12),(.int .i64 234),(.int .i64 0),(.str [99]),(.bool false),(.sl 6 [(.agg [(.int .i64 11),(.int .i64 256),(.int .i64 0),(.str [99]),(.bool false),(.sl 6 [(.agg [(.int .i64 8),(.int .i64 246),(.int .i64 0),(.str []),(.bool false),(.sl 6 [(.agg [(.int .i64 1),(.int .i64 244),(.int .i64 0),(.str []),(.bool false),.nils]),(.agg [(.int .i64 10),(.int .i64 249),(.int .i64 0),(.str []),(.bool false),(.sl 6 [(.agg [(.int .i64 3),(.int .i64 253),(.int .i64 0),(.str [122]),(.bool false),.nils])] .lit)])] .lit)])] .lit)]),(.agg [(.int .i64 3),(.int .i64 265),(.int .i64 0),(.str [117]),(.bool false),.nils])] .dead)])] .dead)]
def textC : List Nat := [110,111,100,101,32,99,111,117,110,116,40,97,58,32,105,110,116,41,32,114,101,116,117,114,110,115,32,40,110,58,32,105,110,116,41,32,108,101,116,32,110,32,61,32,97,32,45,62,32,112,114,101,32,110,32,43,32,97,59,32,116,101,108,32,110,111,100,101,32,102,40,99,58,32,98,111,111,108,41,32,114,101,116,117,114,110,115,32,40,121,58,32,105,110,116,44,32,122,58,32,105,110,116,41,32,118,97,114,32,116,58,32,105,110,116,32,119,104,101,110,32,99,59,32,117,58,32,105,110,116,32,119,104,101,110,32,110,111,116,32,99,59,32,108,101,116,32,116,32,61,32,99,111,117,110,116,40,49,32,119,104,101,110,32,99,41,59,32,117,32,61,32,48,32,102,98,121,32,40,117,32,43,32,49,41,59,32,121,32,61,32,109,101,114,103,101,32,99,32,40,116,41,32,40,40,48,32,45,62,32,112,114,101,32,121,41,32,119,104,101,110,32,110,111,116,32,99,41,59,32,122,32,61,32,109,101,114,103,101,32,99,32,40,40,48,32,45,62,32,112,114,101,32,122,41,32,119,104,101,110,32,99,41,32,40,117,41,59,32,116,101,108]
def v_parseC : AV := (.tuple [(.sl 6 [(.agg ndC0),(.agg ndC1)] .dead),(.agg [(.int .i64 0),(.int .i64 0)])])
theorem r_awake11 : callK CC (memoL memo1) (tget tab) kPar 3000 13 [] [] = some (.ret (.bool true) [] 0) := by kernel_rfl
def m_aw11 : List (FuncId × List AV × AV) := (13, [], .bool true) :: memo1
theorem m_aw11_ok : MemoOk CC (memoL m_aw11) := memo_cons cc_goodF cc_scal memo1_ok memo1_ok rfl (by kernel_rfl) (orc_callK cc_mask tabT (kPar_ok memo1_par) r_awake11)
theorem r_parseC : callK CC (memoL memo1) (tget tab) kPar 3000 14 [.str textC] [] = some (.ret v_parseC [] 0) := by kernel_rfl
def m_C : List (FuncId × List AV × AV) := (14, [.str textC], v_parseC) :: m_aw11
theorem m_C_ok : MemoOk CC (memoL m_C) := memo_cons cc_goodF cc_scal m_aw11_ok memo1_ok rfl (by kernel_rfl) (orc_callK cc_mask tabT (kPar_ok memo1_par) r_parseC)
end Go.Proofs
set_option maxRecDepth 1000000
namespace Go.Proofs
open Go Go.Abs
noncomputable section
def recC : RecT := callZ CC (memoL m_C) (tget tab) 3000
def pC : AV := (.ptr 180 0)
/-- memory ahead of a step: the delays, and what else stands there (j), which doesn't count -/
def hC (j : Nat → Int) (f a b g c d : Int) : Heap := [(.cells [(.int .i64 0),(.int .i64 0)]),
 (.cells [(.int .i64 0),(.int .i64 0)]),
 (.cells ndC1),
 (.cells [(.str [102]),(.int .i64 69),(.int .i64 22),(.sl 1 [(.int .i64 0)] (.live 9 0)),(.sl 1 [(.int .i64 2),(.int .i64 3)] (.live 165 1)),(.sl 4 [(.agg [(.str [99,111,112,121]),(.int .i64 1),(.sl 3 [(.agg [(.bool false),(.int .i64 0),(.int .i64 0)])] (.live 10 0)),.nils]),(.agg [(.str [99,111,112,121]),(.int .i64 6),(.sl 3 [(.agg [(.bool true),(.int .i64 1),(.int .i64 0)])] .dead),(.sl 2 [(.agg [(.int .i64 1),(.bool false)])] .dead)]),(.agg [(.str [43]),(.int .i64 10),(.sl 3 [(.agg [(.bool false),(.int .i64 0),(.int .i64 9)]),(.agg [(.bool false),(.int .i64 0),(.int .i64 6)])] (.live 71 1)),(.sl 2 [(.agg [(.int .i64 1),(.bool false)])] .dead)]),(.agg [(.str [105,102]),(.int .i64 11),(.sl 3 [(.agg [(.bool false),(.int .i64 0),(.int .i64 8)]),(.agg [(.bool false),(.int .i64 0),(.int .i64 6)]),(.agg [(.bool false),(.int .i64 0),(.int .i64 10)])] .lit),(.sl 2 [(.agg [(.int .i64 1),(.bool false)])] .dead)]),(.agg [(.str [99,111,112,121]),(.int .i64 7),(.sl 3 [(.agg [(.bool false),(.int .i64 0),(.int .i64 11)])] (.live 75 0)),(.sl 2 [(.agg [(.int .i64 1),(.bool false)])] .dead)]),(.agg [(.str [99,111,112,121]),(.int .i64 4),(.sl 3 [(.agg [(.bool false),(.int .i64 0),(.int .i64 7)])] (.live 79 0)),(.sl 2 [(.agg [(.int .i64 1),(.bool false)])] .dead)]),(.agg [(.str [43]),(.int .i64 13),(.sl 3 [(.agg [(.bool false),(.int .i64 0),(.int .i64 5)]),(.agg [(.bool true),(.int .i64 1),(.int .i64 0)])] .dead),(.sl 2 [(.agg [(.int .i64 1),(.bool true)])] .dead)]),(.agg [(.str [99,111,112,121]),(.int .i64 5),(.sl 3 [(.agg [(.bool false),(.int .i64 0),(.int .i64 12)])] (.live 96 0)),(.sl 2 [(.agg [(.int .i64 1),(.bool true)])] .dead)]),(.agg [(.str [105,102]),(.int .i64 16),(.sl 3 [(.agg [(.bool false),(.int .i64 0),(.int .i64 14)]),(.agg [(.bool true),(.int .i64 0),(.int .i64 0)]),(.agg [(.bool false),(.int .i64 0),(.int .i64 15)])] .lit),(.sl 2 [] .lit)]),(.agg [(.str [105,102]),(.int .i64 17),(.sl 3 [(.agg [(.bool false),(.int .i64 0),(.int .i64 1)]),(.agg [(.bool false),(.int .i64 0),(.int .i64 4)]),(.agg [(.bool false),(.int .i64 0),(.int .i64 16)])] .lit),(.sl 2 [] .lit)]),(.agg [(.str [99,111,112,121]),(.int .i64 2),(.sl 3 [(.agg [(.bool false),(.int .i64 0),(.int .i64 17)])] (.live 129 0)),(.sl 2 [] .lit)]),(.agg [(.str [105,102]),(.int .i64 20),(.sl 3 [(.agg [(.bool false),(.int .i64 0),(.int .i64 18)]),(.agg [(.bool true),(.int .i64 0),(.int .i64 0)]),(.agg [(.bool false),(.int .i64 0),(.int .i64 19)])] .lit),(.sl 2 [] .lit)]),(.agg [(.str [105,102]),(.int .i64 21),(.sl 3 [(.agg [(.bool false),(.int .i64 0),(.int .i64 1)]),(.agg [(.bool false),(.int .i64 0),(.int .i64 20)]),(.agg [(.bool false),(.int .i64 0),(.int .i64 5)])] .lit),(.sl 2 [] .lit)]),(.agg [(.str [99,111,112,121]),(.int .i64 3),(.sl 3 [(.agg [(.bool false),(.int .i64 0),(.int .i64 21)])] (.live 162 0)),(.sl 2 [] .lit)])] (.live 22 13)),(.rsl 156 0 7 7 6),.nils,.nils,(.int .i64 28)]),
 (.cells [(.ptr 3 0),(.sl 6 [(.agg ndC0),(.agg ndC1)] .dead)]),
 (.cells [(.ptr 4 0)]),
 (.cells [(.int .i64 0),(.int .i64 0)]),
 (.cells ndC1),
 (.cells [(.str [99]),(.int .i64 71),(.bool true),(.bool false),(.str []),(.bool false)]),
 (.lin 0),
 (.lin 0),
 (.cells [(.ptr 4 0)]),
 (.cells ndC1),
 (.map [((.str [99]),(.int .i64 1)),((.str [121]),(.int .i64 2)),((.str [122]),(.int .i64 3)),((.str [116]),(.int .i64 4)),((.str [117]),(.int .i64 5))]),
 (.map []),
 (.cells [(.str [102]),(.int .i64 69),(.sl 6 [(.agg [(.str [99]),(.int .i64 71),(.bool true),(.bool false),(.str []),(.bool false)])] .dead),(.sl 6 [(.agg [(.str [121]),(.int .i64 89),(.bool false),(.bool false),(.str []),(.bool false)]),(.agg [(.str [122]),(.int .i64 97),(.bool false),(.bool false),(.str []),(.bool false)])] .dead),(.sl 6 [(.agg [(.str [116]),(.int .i64 109),(.bool false),(.bool false),(.str [99]),(.bool false)]),(.agg [(.str [117]),(.int .i64 124),(.bool false),(.bool false),(.str [99]),(.bool true)])] .dead),(.sl 8 [(.agg [(.sl 2 [(.agg [(.str [116]),(.int .i64 147)])] .dead),(.bool false),(.int .i64 13),(.int .i64 151),(.int .i64 0),(.str [99,111,117,110,116]),(.bool false),(.sl 6 [(.agg [(.int .i64 11),(.int .i64 159),(.int .i64 0),(.str [99]),(.bool false),(.sl 6 [(.agg [(.int .i64 1),(.int .i64 157),(.int .i64 1),(.str []),(.bool false),.nils])] .lit)])] .lit)]),(.agg [(.sl 2 [(.agg [(.str [117]),(.int .i64 168)])] .dead),(.bool false),(.int .i64 9),(.int .i64 174),(.int .i64 0),(.str []),(.bool false),(.sl 6 [(.agg [(.int .i64 1),(.int .i64 172),(.int .i64 0),(.str []),(.bool false),.nils]),(.agg [(.int .i64 6),(.int .i64 181),(.int .i64 0),(.str [43]),(.bool false),(.sl 6 [(.agg [(.int .i64 3),(.int .i64 179),(.int .i64 0),(.str [117]),(.bool false),.nils]),(.agg [(.int .i64 1),(.int .i64 183),(.int .i64 1),(.str []),(.bool false),.nils])] .lit)])] .lit)]),(.agg [(.sl 2 [(.agg [(.str [121]),(.int .i64 187)])] .dead),(.bool false),(.int .i64 12),(.int .i64 191),(.int .i64 0),(.str [99]),(.bool false),(.sl 6 [(.agg [(.int .i64 3),(.int .i64 200),(.int .i64 0),(.str [116]),(.bool false),.nils]),(.agg [(.int .i64 11),(.int .i64 217),(.int .i64 0),(.str [99]),(.bool true),(.sl 6 [(.agg [(.int .i64 8),(.int .i64 207),(.int .i64 0),(.str []),(.bool false),(.sl 6 [(.agg [(.int .i64 1),(.int .i64 205),(.int .i64 0),(.str []),(.bool false),.nils]),(.agg [(.int .i64 10),(.int .i64 210),(.int .i64 0),(.str []),(.bool false),(.sl 6 [(.agg [(.int .i64 3),(.int .i64 214),(.int .i64 0),(.str [121]),(.bool false),.nils])] .lit)])] .lit)])] .lit)])] .dead)]),(.agg [(.sl 2 [(.agg [(.str [122]),(.int .i64 230)])] .dead),(.bool false),(.int .i64 12),(.int .i64 234),(.int .i64 0),(.str [99]),(.bool false),(.sl 6 [(.agg [(.int .i64 11),(.int .i64 256),(.int .i64 0),(.str [99]),(.bool false),(.sl 6 [(.agg [(.int .i64 8),(.int .i64 246),(.int .i64 0),(.str []),(.bool false),(.sl 6 [(.agg [(.int .i64 1),(.int .i64 244),(.int .i64 0),(.str []),(.bool false),.nils]),(.agg [(.int .i64 10),(.int .i64 249),(.int .i64 0),(.str []),(.bool false),(.sl 6 [(.agg [(.int .i64 3),(.int .i64 253),(.int .i64 0),(.str [122]),(.bool false),.nils])] .lit)])] .lit)])] .lit)]),(.agg [(.int .i64 3),(.int .i64 265),(.int .i64 0),(.str [117]),(.bool false),.nils])] .dead)])] .dead),(.map 13),(.map 14),.nils]),
 (.cells [(.str [99]),(.int .i64 71),(.bool true),(.bool false),(.str []),(.bool false)]),
 (.cells [(.str [121]),(.int .i64 89),(.bool false),(.bool false),(.str []),(.bool false)]),
 (.cells [(.str [122]),(.int .i64 97),(.bool false),(.bool false),(.str []),(.bool false)]),
 (.cells [(.str [116]),(.int .i64 109),(.bool false),(.bool false),(.str [99]),(.bool false)]),
 (.cells [(.str [117]),(.int .i64 124),(.bool false),(.bool false),(.str [99]),(.bool true)]),
 (.cells [(.str [99]),(.int .i64 71),(.bool true),(.bool false),(.str []),(.bool false)]),
 (.lin 13),
 (.cells [(.sl 2 [(.agg [(.str [116]),(.int .i64 147)])] .dead),(.bool false),(.int .i64 13),(.int .i64 151),(.int .i64 0),(.str [99,111,117,110,116]),(.bool false),(.sl 6 [(.agg [(.int .i64 11),(.int .i64 159),(.int .i64 0),(.str [99]),(.bool false),(.sl 6 [(.agg [(.int .i64 1),(.int .i64 157),(.int .i64 1),(.str []),(.bool false),.nils])] .lit)])] .lit)]),
 (.cells [(.sl 2 [(.agg [(.str [117]),(.int .i64 168)])] .dead),(.bool false),(.int .i64 9),(.int .i64 174),(.int .i64 0),(.str []),(.bool false),(.sl 6 [(.agg [(.int .i64 1),(.int .i64 172),(.int .i64 0),(.str []),(.bool false),.nils]),(.agg [(.int .i64 6),(.int .i64 181),(.int .i64 0),(.str [43]),(.bool false),(.sl 6 [(.agg [(.int .i64 3),(.int .i64 179),(.int .i64 0),(.str [117]),(.bool false),.nils]),(.agg [(.int .i64 1),(.int .i64 183),(.int .i64 1),(.str []),(.bool false),.nils])] .lit)])] .lit)]),
 (.cells [(.sl 2 [(.agg [(.str [121]),(.int .i64 187)])] .dead),(.bool false),(.int .i64 12),(.int .i64 191),(.int .i64 0),(.str [99]),(.bool false),(.sl 6 [(.agg [(.int .i64 3),(.int .i64 200),(.int .i64 0),(.str [116]),(.bool false),.nils]),(.agg [(.int .i64 11),(.int .i64 217),(.int .i64 0),(.str [99]),(.bool true),(.sl 6 [(.agg [(.int .i64 8),(.int .i64 207),(.int .i64 0),(.str []),(.bool false),(.sl 6 [(.agg [(.int .i64 1),(.int .i64 205),(.int .i64 0),(.str []),(.bool false),.nils]),(.agg [(.int .i64 10),(.int .i64 210),(.int .i64 0),(.str []),(.bool false),(.sl 6 [(.agg [(.int .i64 3),(.int .i64 214),(.int .i64 0),(.str [121]),(.bool false),.nils])] .lit)])] .lit)])] .lit)])] .dead)]),
 (.cells [(.sl 2 [(.agg [(.str [122]),(.int .i64 230)])] .dead),(.bool false),(.int .i64 12),(.int .i64 234),(.int .i64 0),(.str [99]),(.bool false),(.sl 6 [(.agg [(.int .i64 11),(.int .i64 256),(.int .i64 0),(.str [99]),(.bool false),(.sl 6 [(.agg [(.int .i64 8),(.int .i64 246),(.int .i64 0),(.str []),(.bool false),(.sl 6 [(.agg [(.int .i64 1),(.int .i64 244),(.int .i64 0),(.str []),(.bool false),.nils]),(.agg [(.int .i64 10),(.int .i64 249),(.int .i64 0),(.str []),(.bool false),(.sl 6 [(.agg [(.int .i64 3),(.int .i64 253),(.int .i64 0),(.str [122]),(.bool false),.nils])] .lit)])] .lit)])] .lit)]),(.agg [(.int .i64 3),(.int .i64 265),(.int .i64 0),(.str [117]),(.bool false),.nils])] .dead)]),
 (.cells [(.sl 2 [(.agg [(.str [116]),(.int .i64 147)])] .dead),(.bool false),(.int .i64 13),(.int .i64 151),(.int .i64 0),(.str [99,111,117,110,116]),(.bool false),(.sl 6 [(.agg [(.int .i64 11),(.int .i64 159),(.int .i64 0),(.str [99]),(.bool false),(.sl 6 [(.agg [(.int .i64 1),(.int .i64 157),(.int .i64 1),(.str []),(.bool false),.nils])] .lit)])] .lit)]),
 (.cells [(.sl 2 [(.agg [(.str [117]),(.int .i64 168)])] .dead),(.bool false),(.int .i64 9),(.int .i64 174),(.int .i64 0),(.str []),(.bool false),(.sl 6 [(.agg [(.int .i64 1),(.int .i64 172),(.int .i64 0),(.str []),(.bool false),.nils]),(.agg [(.int .i64 6),(.int .i64 181),(.int .i64 0),(.str [43]),(.bool false),(.sl 6 [(.agg [(.int .i64 3),(.int .i64 179),(.int .i64 0),(.str [117]),(.bool false),.nils]),(.agg [(.int .i64 1),(.int .i64 183),(.int .i64 1),(.str []),(.bool false),.nils])] .lit)])] .lit)]),
 (.cells [(.sl 2 [(.agg [(.str [121]),(.int .i64 187)])] .dead),(.bool false),(.int .i64 12),(.int .i64 191),(.int .i64 0),(.str [99]),(.bool false),(.sl 6 [(.agg [(.int .i64 3),(.int .i64 200),(.int .i64 0),(.str [116]),(.bool false),.nils]),(.agg [(.int .i64 11),(.int .i64 217),(.int .i64 0),(.str [99]),(.bool true),(.sl 6 [(.agg [(.int .i64 8),(.int .i64 207),(.int .i64 0),(.str []),(.bool false),(.sl 6 [(.agg [(.int .i64 1),(.int .i64 205),(.int .i64 0),(.str []),(.bool false),.nils]),(.agg [(.int .i64 10),(.int .i64 210),(.int .i64 0),(.str []),(.bool false),(.sl 6 [(.agg [(.int .i64 3),(.int .i64 214),(.int .i64 0),(.str [121]),(.bool false),.nils])] .lit)])] .lit)])] .lit)])] .dead)]),
 (.cells [(.sl 2 [(.agg [(.str [122]),(.int .i64 230)])] .dead),(.bool false),(.int .i64 12),(.int .i64 234),(.int .i64 0),(.str [99]),(.bool false),(.sl 6 [(.agg [(.int .i64 11),(.int .i64 256),(.int .i64 0),(.str [99]),(.bool false),(.sl 6 [(.agg [(.int .i64 8),(.int .i64 246),(.int .i64 0),(.str []),(.bool false),(.sl 6 [(.agg [(.int .i64 1),(.int .i64 244),(.int .i64 0),(.str []),(.bool false),.nils]),(.agg [(.int .i64 10),(.int .i64 249),(.int .i64 0),(.str []),(.bool false),(.sl 6 [(.agg [(.int .i64 3),(.int .i64 253),(.int .i64 0),(.str [122]),(.bool false),.nils])] .lit)])] .lit)])] .lit)]),(.agg [(.int .i64 3),(.int .i64 265),(.int .i64 0),(.str [117]),(.bool false),.nils])] .dead)]),
 (.cells [(.sl 2 [(.agg [(.str [116]),(.int .i64 147)])] .dead),(.bool false),(.int .i64 13),(.int .i64 151),(.int .i64 0),(.str [99,111,117,110,116]),(.bool false),(.sl 6 [(.agg [(.int .i64 11),(.int .i64 159),(.int .i64 0),(.str [99]),(.bool false),(.sl 6 [(.agg [(.int .i64 1),(.int .i64 157),(.int .i64 1),(.str []),(.bool false),.nils])] .lit)])] .lit)]),
 (.cells [(.sl 2 [(.agg [(.str [116]),(.int .i64 147)])] .dead),(.bool false),(.int .i64 13),(.int .i64 151),(.int .i64 0),(.str [99,111,117,110,116]),(.bool false),(.sl 6 [(.agg [(.int .i64 11),(.int .i64 159),(.int .i64 0),(.str [99]),(.bool false),(.sl 6 [(.agg [(.int .i64 1),(.int .i64 157),(.int .i64 1),(.str []),(.bool false),.nils])] .lit)])] .lit)]),
 (.cells [(.int .i64 13),(.int .i64 151),(.int .i64 0),(.str [99,111,117,110,116]),(.bool false),(.sl 6 [(.agg [(.int .i64 11),(.int .i64 159),(.int .i64 0),(.str [99]),(.bool false),(.sl 6 [(.agg [(.int .i64 1),(.int .i64 157),(.int .i64 1),(.str []),(.bool false),.nils])] .lit)])] .lit)]),
 (.cells ndC0),
 (.cells [(.ptr 4 0)]),
 (.cells ndC0),
 (.map [((.str [97]),(.int .i64 6)),((.str [110]),(.int .i64 7))]),
 (.map []),
 (.cells [(.str [99,111,117,110,116]),(.int .i64 5),(.sl 6 [(.agg [(.str [97]),(.int .i64 11),(.bool false),(.bool false),(.str []),(.bool false)])] .dead),(.sl 6 [(.agg [(.str [110]),(.int .i64 28),(.bool false),(.bool false),(.str []),(.bool false)])] .dead),.nils,(.sl 8 [(.agg [(.sl 2 [(.agg [(.str [110]),(.int .i64 40)])] .dead),(.bool false),(.int .i64 8),(.int .i64 46),(.int .i64 0),(.str []),(.bool false),(.sl 6 [(.agg [(.int .i64 3),(.int .i64 44),(.int .i64 0),(.str [97]),(.bool false),.nils]),(.agg [(.int .i64 6),(.int .i64 55),(.int .i64 0),(.str [43]),(.bool false),(.sl 6 [(.agg [(.int .i64 10),(.int .i64 49),(.int .i64 0),(.str []),(.bool false),(.sl 6 [(.agg [(.int .i64 3),(.int .i64 53),(.int .i64 0),(.str [110]),(.bool false),.nils])] .lit)]),(.agg [(.int .i64 3),(.int .i64 57),(.int .i64 0),(.str [97]),(.bool false),.nils])] .lit)])] .lit)])] .dead),(.map 37),(.map 38),(.sl 2 [(.agg [(.int .i64 1),(.bool false)])] .dead)]),
 (.cells [(.str [97]),(.int .i64 11),(.bool false),(.bool false),(.str []),(.bool false)]),
 (.cells [(.str [110]),(.int .i64 28),(.bool false),(.bool false),(.str []),(.bool false)]),
 (.cells [(.str [97]),(.int .i64 11),(.bool false),(.bool false),(.str []),(.bool false)]),
 (.cells [(.sl 2 [(.agg [(.str [110]),(.int .i64 40)])] .dead),(.bool false),(.int .i64 8),(.int .i64 46),(.int .i64 0),(.str []),(.bool false),(.sl 6 [(.agg [(.int .i64 3),(.int .i64 44),(.int .i64 0),(.str [97]),(.bool false),.nils]),(.agg [(.int .i64 6),(.int .i64 55),(.int .i64 0),(.str [43]),(.bool false),(.sl 6 [(.agg [(.int .i64 10),(.int .i64 49),(.int .i64 0),(.str []),(.bool false),(.sl 6 [(.agg [(.int .i64 3),(.int .i64 53),(.int .i64 0),(.str [110]),(.bool false),.nils])] .lit)]),(.agg [(.int .i64 3),(.int .i64 57),(.int .i64 0),(.str [97]),(.bool false),.nils])] .lit)])] .lit)]),
 (.cells [(.sl 2 [(.agg [(.str [110]),(.int .i64 40)])] .dead),(.bool false),(.int .i64 8),(.int .i64 46),(.int .i64 0),(.str []),(.bool false),(.sl 6 [(.agg [(.int .i64 3),(.int .i64 44),(.int .i64 0),(.str [97]),(.bool false),.nils]),(.agg [(.int .i64 6),(.int .i64 55),(.int .i64 0),(.str [43]),(.bool false),(.sl 6 [(.agg [(.int .i64 10),(.int .i64 49),(.int .i64 0),(.str []),(.bool false),(.sl 6 [(.agg [(.int .i64 3),(.int .i64 53),(.int .i64 0),(.str [110]),(.bool false),.nils])] .lit)]),(.agg [(.int .i64 3),(.int .i64 57),(.int .i64 0),(.str [97]),(.bool false),.nils])] .lit)])] .lit)]),
 (.cells [(.sl 2 [(.agg [(.str [110]),(.int .i64 40)])] .dead),(.bool false),(.int .i64 8),(.int .i64 46),(.int .i64 0),(.str []),(.bool false),(.sl 6 [(.agg [(.int .i64 3),(.int .i64 44),(.int .i64 0),(.str [97]),(.bool false),.nils]),(.agg [(.int .i64 6),(.int .i64 55),(.int .i64 0),(.str [43]),(.bool false),(.sl 6 [(.agg [(.int .i64 10),(.int .i64 49),(.int .i64 0),(.str []),(.bool false),(.sl 6 [(.agg [(.int .i64 3),(.int .i64 53),(.int .i64 0),(.str [110]),(.bool false),.nils])] .lit)]),(.agg [(.int .i64 3),(.int .i64 57),(.int .i64 0),(.str [97]),(.bool false),.nils])] .lit)])] .lit)]),
 (.cells [(.sl 2 [(.agg [(.str [110]),(.int .i64 40)])] .dead),(.bool false),(.int .i64 8),(.int .i64 46),(.int .i64 0),(.str []),(.bool false),(.sl 6 [(.agg [(.int .i64 3),(.int .i64 44),(.int .i64 0),(.str [97]),(.bool false),.nils]),(.agg [(.int .i64 6),(.int .i64 55),(.int .i64 0),(.str [43]),(.bool false),(.sl 6 [(.agg [(.int .i64 10),(.int .i64 49),(.int .i64 0),(.str []),(.bool false),(.sl 6 [(.agg [(.int .i64 3),(.int .i64 53),(.int .i64 0),(.str [110]),(.bool false),.nils])] .lit)]),(.agg [(.int .i64 3),(.int .i64 57),(.int .i64 0),(.str [97]),(.bool false),.nils])] .lit)])] .lit)]),
 (.cells [(.int .i64 8),(.int .i64 46),(.int .i64 0),(.str []),(.bool false),(.sl 6 [(.agg [(.int .i64 3),(.int .i64 44),(.int .i64 0),(.str [97]),(.bool false),.nils]),(.agg [(.int .i64 6),(.int .i64 55),(.int .i64 0),(.str [43]),(.bool false),(.sl 6 [(.agg [(.int .i64 10),(.int .i64 49),(.int .i64 0),(.str []),(.bool false),(.sl 6 [(.agg [(.int .i64 3),(.int .i64 53),(.int .i64 0),(.str [110]),(.bool false),.nils])] .lit)]),(.agg [(.int .i64 3),(.int .i64 57),(.int .i64 0),(.str [97]),(.bool false),.nils])] .lit)])] .lit)]),
 (.cells [(.int .i64 8),(.int .i64 46),(.int .i64 0),(.str []),(.bool false),(.sl 6 [(.agg [(.int .i64 3),(.int .i64 44),(.int .i64 0),(.str [97]),(.bool false),.nils]),(.agg [(.int .i64 6),(.int .i64 55),(.int .i64 0),(.str [43]),(.bool false),(.sl 6 [(.agg [(.int .i64 10),(.int .i64 49),(.int .i64 0),(.str []),(.bool false),(.sl 6 [(.agg [(.int .i64 3),(.int .i64 53),(.int .i64 0),(.str [110]),(.bool false),.nils])] .lit)]),(.agg [(.int .i64 3),(.int .i64 57),(.int .i64 0),(.str [97]),(.bool false),.nils])] .lit)])] .lit)]),
 (.cells [(.bool false),(.int .i64 0),(.int .i64 11)]),
 (.cells [(.int .i64 8),(.int .i64 46),(.int .i64 0),(.str []),(.bool false),(.sl 6 [(.agg [(.int .i64 3),(.int .i64 44),(.int .i64 0),(.str [97]),(.bool false),.nils]),(.agg [(.int .i64 6),(.int .i64 55),(.int .i64 0),(.str [43]),(.bool false),(.sl 6 [(.agg [(.int .i64 10),(.int .i64 49),(.int .i64 0),(.str []),(.bool false),(.sl 6 [(.agg [(.int .i64 3),(.int .i64 53),(.int .i64 0),(.str [110]),(.bool false),.nils])] .lit)]),(.agg [(.int .i64 3),(.int .i64 57),(.int .i64 0),(.str [97]),(.bool false),.nils])] .lit)])] .lit)]),
 (.cells [(.bool false),(.int .i64 0),(.int .i64 11)]),
 (.cells [(.bool false),(.int .i64 0),(.int .i64 8)]),
 (.cells [(.int .i64 8),(.int .i64 1),(.bool false),(.int .i64 0),(.int .i64 0),(.sl 2 [(.agg [(.int .i64 1),(.bool false)])] .dead)]),
 .gone,
 (.cells [(.bool false),(.int .i64 0),(.int .i64 8)]),
 (.cells [(.int .i64 3),(.int .i64 44),(.int .i64 0),(.str [97]),(.bool false),.nils]),
 (.lin 1),
 (.cells [(.int .i64 6),(.int .i64 55),(.int .i64 0),(.str [43]),(.bool false),(.sl 6 [(.agg [(.int .i64 10),(.int .i64 49),(.int .i64 0),(.str []),(.bool false),(.sl 6 [(.agg [(.int .i64 3),(.int .i64 53),(.int .i64 0),(.str [110]),(.bool false),.nils])] .lit)]),(.agg [(.int .i64 3),(.int .i64 57),(.int .i64 0),(.str [97]),(.bool false),.nils])] .lit)]),
 (.cells [(.int .i64 6),(.int .i64 55),(.int .i64 0),(.str [43]),(.bool false),(.sl 6 [(.agg [(.int .i64 10),(.int .i64 49),(.int .i64 0),(.str []),(.bool false),(.sl 6 [(.agg [(.int .i64 3),(.int .i64 53),(.int .i64 0),(.str [110]),(.bool false),.nils])] .lit)]),(.agg [(.int .i64 3),(.int .i64 57),(.int .i64 0),(.str [97]),(.bool false),.nils])] .lit)]),
 (.cells [(.bool false),(.int .i64 0),(.int .i64 10)]),
 (.cells [(.int .i64 10),(.int .i64 49),(.int .i64 0),(.str []),(.bool false),(.sl 6 [(.agg [(.int .i64 3),(.int .i64 53),(.int .i64 0),(.str [110]),(.bool false),.nils])] .lit)]),
 (.cells [(.int .i64 10),(.int .i64 49),(.int .i64 0),(.str []),(.bool false),(.sl 6 [(.agg [(.int .i64 3),(.int .i64 53),(.int .i64 0),(.str [110]),(.bool false),.nils])] .lit)]),
 (.cells [(.bool false),(.int .i64 0),(.int .i64 9)]),
 (.cells [(.int .i64 10),(.int .i64 49),(.int .i64 0),(.str []),(.bool false),(.sl 6 [(.agg [(.int .i64 3),(.int .i64 53),(.int .i64 0),(.str [110]),(.bool false),.nils])] .lit)]),
 (.cells [(.bool false),(.int .i64 0),(.int .i64 9)]),
 (.cells [(.bool false),(.int .i64 0),(.int .i64 9)]),
 (.cells [(.int .i64 9),(.int .i64 0),(.bool false),(.int .i64 0),(.int .i64 0),(.sl 2 [(.agg [(.int .i64 1),(.bool false)])] .dead)]),
 .gone,
 (.cells [(.bool false),(.int .i64 0),(.int .i64 9)]),
 (.cells [(.bool false),(.int .i64 0),(.int .i64 7)]),
 (.lin 1),
 (.cells [(.int .i64 3),(.int .i64 57),(.int .i64 0),(.str [97]),(.bool false),.nils]),
 (.cells [(.bool false),(.int .i64 0),(.int .i64 10)]),
 (.cells [(.bool false),(.int .i64 0),(.int .i64 11)]),
 (.lin 0),
 (.cells [(.str [110]),(.int .i64 40)]),
 (.cells [(.str [110]),(.int .i64 28),(.bool false),(.bool false),(.str []),(.bool false)]),
 (.lin 0),
 (.lin 0),
 (.cells [(.str [116]),(.int .i64 147)]),
 (.cells [(.sl 2 [(.agg [(.str [117]),(.int .i64 168)])] .dead),(.bool false),(.int .i64 9),(.int .i64 174),(.int .i64 0),(.str []),(.bool false),(.sl 6 [(.agg [(.int .i64 1),(.int .i64 172),(.int .i64 0),(.str []),(.bool false),.nils]),(.agg [(.int .i64 6),(.int .i64 181),(.int .i64 0),(.str [43]),(.bool false),(.sl 6 [(.agg [(.int .i64 3),(.int .i64 179),(.int .i64 0),(.str [117]),(.bool false),.nils]),(.agg [(.int .i64 1),(.int .i64 183),(.int .i64 1),(.str []),(.bool false),.nils])] .lit)])] .lit)]),
 (.cells [(.sl 2 [(.agg [(.str [117]),(.int .i64 168)])] .dead),(.bool false),(.int .i64 9),(.int .i64 174),(.int .i64 0),(.str []),(.bool false),(.sl 6 [(.agg [(.int .i64 1),(.int .i64 172),(.int .i64 0),(.str []),(.bool false),.nils]),(.agg [(.int .i64 6),(.int .i64 181),(.int .i64 0),(.str [43]),(.bool false),(.sl 6 [(.agg [(.int .i64 3),(.int .i64 179),(.int .i64 0),(.str [117]),(.bool false),.nils]),(.agg [(.int .i64 1),(.int .i64 183),(.int .i64 1),(.str []),(.bool false),.nils])] .lit)])] .lit)]),
 (.cells [(.int .i64 9),(.int .i64 174),(.int .i64 0),(.str []),(.bool false),(.sl 6 [(.agg [(.int .i64 1),(.int .i64 172),(.int .i64 0),(.str []),(.bool false),.nils]),(.agg [(.int .i64 6),(.int .i64 181),(.int .i64 0),(.str [43]),(.bool false),(.sl 6 [(.agg [(.int .i64 3),(.int .i64 179),(.int .i64 0),(.str [117]),(.bool false),.nils]),(.agg [(.int .i64 1),(.int .i64 183),(.int .i64 1),(.str []),(.bool false),.nils])] .lit)])] .lit)]),
 (.cells [(.int .i64 9),(.int .i64 174),(.int .i64 0),(.str []),(.bool false),(.sl 6 [(.agg [(.int .i64 1),(.int .i64 172),(.int .i64 0),(.str []),(.bool false),.nils]),(.agg [(.int .i64 6),(.int .i64 181),(.int .i64 0),(.str [43]),(.bool false),(.sl 6 [(.agg [(.int .i64 3),(.int .i64 179),(.int .i64 0),(.str [117]),(.bool false),.nils]),(.agg [(.int .i64 1),(.int .i64 183),(.int .i64 1),(.str []),(.bool false),.nils])] .lit)])] .lit)]),
 (.cells [(.bool false),(.int .i64 0),(.int .i64 12)]),
 (.cells [(.int .i64 9),(.int .i64 174),(.int .i64 0),(.str []),(.bool false),(.sl 6 [(.agg [(.int .i64 1),(.int .i64 172),(.int .i64 0),(.str []),(.bool false),.nils]),(.agg [(.int .i64 6),(.int .i64 181),(.int .i64 0),(.str [43]),(.bool false),(.sl 6 [(.agg [(.int .i64 3),(.int .i64 179),(.int .i64 0),(.str [117]),(.bool false),.nils]),(.agg [(.int .i64 1),(.int .i64 183),(.int .i64 1),(.str []),(.bool false),.nils])] .lit)])] .lit)]),
 (.cells [(.bool false),(.int .i64 0),(.int .i64 12)]),
 (.cells [(.bool false),(.int .i64 0),(.int .i64 12)]),
 (.cells [(.int .i64 12),(.int .i64 0),(.bool false),(.int .i64 0),(.int .i64 0),(.sl 2 [(.agg [(.int .i64 1),(.bool true)])] .dead)]),
 .gone,
 (.cells [(.bool false),(.int .i64 0),(.int .i64 12)]),
 (.cells [(.int .i64 6),(.int .i64 181),(.int .i64 0),(.str [43]),(.bool false),(.sl 6 [(.agg [(.int .i64 3),(.int .i64 179),(.int .i64 0),(.str [117]),(.bool false),.nils]),(.agg [(.int .i64 1),(.int .i64 183),(.int .i64 1),(.str []),(.bool false),.nils])] .lit)]),
 (.cells [(.bool false),(.int .i64 0),(.int .i64 13)]),
 (.cells [(.bool false),(.int .i64 0),(.int .i64 13)]),
 (.cells [(.bool false),(.int .i64 0),(.int .i64 13)]),
 (.lin 0),
 (.cells [(.str [117]),(.int .i64 168)]),
 (.cells [(.sl 2 [(.agg [(.str [121]),(.int .i64 187)])] .dead),(.bool false),(.int .i64 12),(.int .i64 191),(.int .i64 0),(.str [99]),(.bool false),(.sl 6 [(.agg [(.int .i64 3),(.int .i64 200),(.int .i64 0),(.str [116]),(.bool false),.nils]),(.agg [(.int .i64 11),(.int .i64 217),(.int .i64 0),(.str [99]),(.bool true),(.sl 6 [(.agg [(.int .i64 8),(.int .i64 207),(.int .i64 0),(.str []),(.bool false),(.sl 6 [(.agg [(.int .i64 1),(.int .i64 205),(.int .i64 0),(.str []),(.bool false),.nils]),(.agg [(.int .i64 10),(.int .i64 210),(.int .i64 0),(.str []),(.bool false),(.sl 6 [(.agg [(.int .i64 3),(.int .i64 214),(.int .i64 0),(.str [121]),(.bool false),.nils])] .lit)])] .lit)])] .lit)])] .dead)]),
 (.cells [(.sl 2 [(.agg [(.str [121]),(.int .i64 187)])] .dead),(.bool false),(.int .i64 12),(.int .i64 191),(.int .i64 0),(.str [99]),(.bool false),(.sl 6 [(.agg [(.int .i64 3),(.int .i64 200),(.int .i64 0),(.str [116]),(.bool false),.nils]),(.agg [(.int .i64 11),(.int .i64 217),(.int .i64 0),(.str [99]),(.bool true),(.sl 6 [(.agg [(.int .i64 8),(.int .i64 207),(.int .i64 0),(.str []),(.bool false),(.sl 6 [(.agg [(.int .i64 1),(.int .i64 205),(.int .i64 0),(.str []),(.bool false),.nils]),(.agg [(.int .i64 10),(.int .i64 210),(.int .i64 0),(.str []),(.bool false),(.sl 6 [(.agg [(.int .i64 3),(.int .i64 214),(.int .i64 0),(.str [121]),(.bool false),.nils])] .lit)])] .lit)])] .lit)])] .dead)]),
 (.cells [(.int .i64 12),(.int .i64 191),(.int .i64 0),(.str [99]),(.bool false),(.sl 6 [(.agg [(.int .i64 3),(.int .i64 200),(.int .i64 0),(.str [116]),(.bool false),.nils]),(.agg [(.int .i64 11),(.int .i64 217),(.int .i64 0),(.str [99]),(.bool true),(.sl 6 [(.agg [(.int .i64 8),(.int .i64 207),(.int .i64 0),(.str []),(.bool false),(.sl 6 [(.agg [(.int .i64 1),(.int .i64 205),(.int .i64 0),(.str []),(.bool false),.nils]),(.agg [(.int .i64 10),(.int .i64 210),(.int .i64 0),(.str []),(.bool false),(.sl 6 [(.agg [(.int .i64 3),(.int .i64 214),(.int .i64 0),(.str [121]),(.bool false),.nils])] .lit)])] .lit)])] .lit)])] .dead)]),
 (.cells [(.int .i64 12),(.int .i64 191),(.int .i64 0),(.str [99]),(.bool false),(.sl 6 [(.agg [(.int .i64 3),(.int .i64 200),(.int .i64 0),(.str [116]),(.bool false),.nils]),(.agg [(.int .i64 11),(.int .i64 217),(.int .i64 0),(.str [99]),(.bool true),(.sl 6 [(.agg [(.int .i64 8),(.int .i64 207),(.int .i64 0),(.str []),(.bool false),(.sl 6 [(.agg [(.int .i64 1),(.int .i64 205),(.int .i64 0),(.str []),(.bool false),.nils]),(.agg [(.int .i64 10),(.int .i64 210),(.int .i64 0),(.str []),(.bool false),(.sl 6 [(.agg [(.int .i64 3),(.int .i64 214),(.int .i64 0),(.str [121]),(.bool false),.nils])] .lit)])] .lit)])] .lit)])] .dead)]),
 (.cells [(.bool false),(.int .i64 0),(.int .i64 17)]),
 (.cells [(.bool false),(.int .i64 0),(.int .i64 4)]),
 (.cells [(.bool false),(.int .i64 0),(.int .i64 16)]),
 (.cells [(.int .i64 11),(.int .i64 217),(.int .i64 0),(.str [99]),(.bool true),(.sl 6 [(.agg [(.int .i64 8),(.int .i64 207),(.int .i64 0),(.str []),(.bool false),(.sl 6 [(.agg [(.int .i64 1),(.int .i64 205),(.int .i64 0),(.str []),(.bool false),.nils]),(.agg [(.int .i64 10),(.int .i64 210),(.int .i64 0),(.str []),(.bool false),(.sl 6 [(.agg [(.int .i64 3),(.int .i64 214),(.int .i64 0),(.str [121]),(.bool false),.nils])] .lit)])] .lit)])] .lit)]),
 (.cells [(.bool false),(.int .i64 0),(.int .i64 16)]),
 (.cells [(.int .i64 8),(.int .i64 207),(.int .i64 0),(.str []),(.bool false),(.sl 6 [(.agg [(.int .i64 1),(.int .i64 205),(.int .i64 0),(.str []),(.bool false),.nils]),(.agg [(.int .i64 10),(.int .i64 210),(.int .i64 0),(.str []),(.bool false),(.sl 6 [(.agg [(.int .i64 3),(.int .i64 214),(.int .i64 0),(.str [121]),(.bool false),.nils])] .lit)])] .lit)]),
 (.cells [(.bool false),(.int .i64 0),(.int .i64 16)]),
 (.cells [(.int .i64 8),(.int .i64 207),(.int .i64 0),(.str []),(.bool false),(.sl 6 [(.agg [(.int .i64 1),(.int .i64 205),(.int .i64 0),(.str []),(.bool false),.nils]),(.agg [(.int .i64 10),(.int .i64 210),(.int .i64 0),(.str []),(.bool false),(.sl 6 [(.agg [(.int .i64 3),(.int .i64 214),(.int .i64 0),(.str [121]),(.bool false),.nils])] .lit)])] .lit)]),
 (.cells [(.bool false),(.int .i64 0),(.int .i64 16)]),
 (.cells [(.bool false),(.int .i64 0),(.int .i64 14)]),
 (.cells [(.int .i64 14),(.int .i64 1),(.bool false),(.int .i64 0),(.int .i64 0),(.sl 2 [] .lit)]),
 .gone,
 (.cells [(.bool false),(.int .i64 0),(.int .i64 14)]),
 (.cells [(.int .i64 1),(.int .i64 205),(.int .i64 0),(.str []),(.bool false),.nils]),
 (.lin 1),
 (.cells [(.int .i64 10),(.int .i64 210),(.int .i64 0),(.str []),(.bool false),(.sl 6 [(.agg [(.int .i64 3),(.int .i64 214),(.int .i64 0),(.str [121]),(.bool false),.nils])] .lit)]),
 (.cells [(.int .i64 10),(.int .i64 210),(.int .i64 0),(.str []),(.bool false),(.sl 6 [(.agg [(.int .i64 3),(.int .i64 214),(.int .i64 0),(.str [121]),(.bool false),.nils])] .lit)]),
 (.cells [(.bool false),(.int .i64 0),(.int .i64 15)]),
 (.cells [(.int .i64 10),(.int .i64 210),(.int .i64 0),(.str []),(.bool false),(.sl 6 [(.agg [(.int .i64 3),(.int .i64 214),(.int .i64 0),(.str [121]),(.bool false),.nils])] .lit)]),
 (.cells [(.bool false),(.int .i64 0),(.int .i64 15)]),
 (.cells [(.bool false),(.int .i64 0),(.int .i64 15)]),
 (.cells [(.int .i64 15),(.int .i64 0),(.bool false),(.int .i64 0),(.int .i64 0),(.sl 2 [] .lit)]),
 .gone,
 (.cells [(.bool false),(.int .i64 0),(.int .i64 15)]),
 (.cells [(.bool false),(.int .i64 0),(.int .i64 2)]),
 (.cells [(.bool false),(.int .i64 0),(.int .i64 16)]),
 (.cells [(.bool false),(.int .i64 0),(.int .i64 17)]),
 (.lin 0),
 (.cells [(.str [121]),(.int .i64 187)]),
 (.cells [(.sl 2 [(.agg [(.str [122]),(.int .i64 230)])] .dead),(.bool false),(.int .i64 12),(.int .i64 234),(.int .i64 0),(.str [99]),(.bool false),(.sl 6 [(.agg [(.int .i64 11),(.int .i64 256),(.int .i64 0),(.str [99]),(.bool false),(.sl 6 [(.agg [(.int .i64 8),(.int .i64 246),(.int .i64 0),(.str []),(.bool false),(.sl 6 [(.agg [(.int .i64 1),(.int .i64 244),(.int .i64 0),(.str []),(.bool false),.nils]),(.agg [(.int .i64 10),(.int .i64 249),(.int .i64 0),(.str []),(.bool false),(.sl 6 [(.agg [(.int .i64 3),(.int .i64 253),(.int .i64 0),(.str [122]),(.bool false),.nils])] .lit)])] .lit)])] .lit)]),(.agg [(.int .i64 3),(.int .i64 265),(.int .i64 0),(.str [117]),(.bool false),.nils])] .dead)]),
 (.cells [(.sl 2 [(.agg [(.str [122]),(.int .i64 230)])] .dead),(.bool false),(.int .i64 12),(.int .i64 234),(.int .i64 0),(.str [99]),(.bool false),(.sl 6 [(.agg [(.int .i64 11),(.int .i64 256),(.int .i64 0),(.str [99]),(.bool false),(.sl 6 [(.agg [(.int .i64 8),(.int .i64 246),(.int .i64 0),(.str []),(.bool false),(.sl 6 [(.agg [(.int .i64 1),(.int .i64 244),(.int .i64 0),(.str []),(.bool false),.nils]),(.agg [(.int .i64 10),(.int .i64 249),(.int .i64 0),(.str []),(.bool false),(.sl 6 [(.agg [(.int .i64 3),(.int .i64 253),(.int .i64 0),(.str [122]),(.bool false),.nils])] .lit)])] .lit)])] .lit)]),(.agg [(.int .i64 3),(.int .i64 265),(.int .i64 0),(.str [117]),(.bool false),.nils])] .dead)]),
 (.cells [(.int .i64 12),(.int .i64 234),(.int .i64 0),(.str [99]),(.bool false),(.sl 6 [(.agg [(.int .i64 11),(.int .i64 256),(.int .i64 0),(.str [99]),(.bool false),(.sl 6 [(.agg [(.int .i64 8),(.int .i64 246),(.int .i64 0),(.str []),(.bool false),(.sl 6 [(.agg [(.int .i64 1),(.int .i64 244),(.int .i64 0),(.str []),(.bool false),.nils]),(.agg [(.int .i64 10),(.int .i64 249),(.int .i64 0),(.str []),(.bool false),(.sl 6 [(.agg [(.int .i64 3),(.int .i64 253),(.int .i64 0),(.str [122]),(.bool false),.nils])] .lit)])] .lit)])] .lit)]),(.agg [(.int .i64 3),(.int .i64 265),(.int .i64 0),(.str [117]),(.bool false),.nils])] .dead)]),
 (.cells [(.int .i64 12),(.int .i64 234),(.int .i64 0),(.str [99]),(.bool false),(.sl 6 [(.agg [(.int .i64 11),(.int .i64 256),(.int .i64 0),(.str [99]),(.bool false),(.sl 6 [(.agg [(.int .i64 8),(.int .i64 246),(.int .i64 0),(.str []),(.bool false),(.sl 6 [(.agg [(.int .i64 1),(.int .i64 244),(.int .i64 0),(.str []),(.bool false),.nils]),(.agg [(.int .i64 10),(.int .i64 249),(.int .i64 0),(.str []),(.bool false),(.sl 6 [(.agg [(.int .i64 3),(.int .i64 253),(.int .i64 0),(.str [122]),(.bool false),.nils])] .lit)])] .lit)])] .lit)]),(.agg [(.int .i64 3),(.int .i64 265),(.int .i64 0),(.str [117]),(.bool false),.nils])] .dead)]),
 (.cells [(.bool false),(.int .i64 0),(.int .i64 21)]),
 (.cells [(.bool false),(.int .i64 0),(.int .i64 20)]),
 (.cells [(.int .i64 11),(.int .i64 256),(.int .i64 0),(.str [99]),(.bool false),(.sl 6 [(.agg [(.int .i64 8),(.int .i64 246),(.int .i64 0),(.str []),(.bool false),(.sl 6 [(.agg [(.int .i64 1),(.int .i64 244),(.int .i64 0),(.str []),(.bool false),.nils]),(.agg [(.int .i64 10),(.int .i64 249),(.int .i64 0),(.str []),(.bool false),(.sl 6 [(.agg [(.int .i64 3),(.int .i64 253),(.int .i64 0),(.str [122]),(.bool false),.nils])] .lit)])] .lit)])] .lit)]),
 (.cells [(.bool false),(.int .i64 0),(.int .i64 20)]),
 (.cells [(.int .i64 8),(.int .i64 246),(.int .i64 0),(.str []),(.bool false),(.sl 6 [(.agg [(.int .i64 1),(.int .i64 244),(.int .i64 0),(.str []),(.bool false),.nils]),(.agg [(.int .i64 10),(.int .i64 249),(.int .i64 0),(.str []),(.bool false),(.sl 6 [(.agg [(.int .i64 3),(.int .i64 253),(.int .i64 0),(.str [122]),(.bool false),.nils])] .lit)])] .lit)]),
 (.cells [(.bool false),(.int .i64 0),(.int .i64 20)]),
 (.cells [(.int .i64 8),(.int .i64 246),(.int .i64 0),(.str []),(.bool false),(.sl 6 [(.agg [(.int .i64 1),(.int .i64 244),(.int .i64 0),(.str []),(.bool false),.nils]),(.agg [(.int .i64 10),(.int .i64 249),(.int .i64 0),(.str []),(.bool false),(.sl 6 [(.agg [(.int .i64 3),(.int .i64 253),(.int .i64 0),(.str [122]),(.bool false),.nils])] .lit)])] .lit)]),
 (.cells [(.bool false),(.int .i64 0),(.int .i64 20)]),
 (.cells [(.bool false),(.int .i64 0),(.int .i64 18)]),
 (.cells [(.int .i64 18),(.int .i64 1),(.bool false),(.int .i64 0),(.int .i64 0),(.sl 2 [] .lit)]),
 .gone,
 (.cells [(.bool false),(.int .i64 0),(.int .i64 18)]),
 (.cells [(.int .i64 1),(.int .i64 244),(.int .i64 0),(.str []),(.bool false),.nils]),
 (.lin 1),
 (.cells [(.int .i64 10),(.int .i64 249),(.int .i64 0),(.str []),(.bool false),(.sl 6 [(.agg [(.int .i64 3),(.int .i64 253),(.int .i64 0),(.str [122]),(.bool false),.nils])] .lit)]),
 (.cells [(.int .i64 10),(.int .i64 249),(.int .i64 0),(.str []),(.bool false),(.sl 6 [(.agg [(.int .i64 3),(.int .i64 253),(.int .i64 0),(.str [122]),(.bool false),.nils])] .lit)]),
 (.cells [(.bool false),(.int .i64 0),(.int .i64 19)]),
 (.cells [(.int .i64 10),(.int .i64 249),(.int .i64 0),(.str []),(.bool false),(.sl 6 [(.agg [(.int .i64 3),(.int .i64 253),(.int .i64 0),(.str [122]),(.bool false),.nils])] .lit)]),
 (.cells [(.bool false),(.int .i64 0),(.int .i64 19)]),
 (.cells [(.bool false),(.int .i64 0),(.int .i64 19)]),
 (.cells [(.int .i64 19),(.int .i64 0),(.bool false),(.int .i64 0),(.int .i64 0),(.sl 2 [] .lit)]),
 (.cells [(.int .i64 8),(.int .i64 1),(.bool true),(.int .i64 0),(.int .i64 0),(.sl 2 [(.agg [(.int .i64 1),(.bool false)])] .dead),(.int .i64 9),(.int .i64 0),(.bool false),(.int .i64 0),(.int .i64 7),(.sl 2 [(.agg [(.int .i64 1),(.bool false)])] .dead),(.int .i64 12),(.int .i64 0),(.bool false),(.int .i64 0),(.int .i64 13),(.sl 2 [(.agg [(.int .i64 1),(.bool true)])] .dead),(.int .i64 14),(.int .i64 1),(.bool true),(.int .i64 0),(.int .i64 0),(.sl 2 [] .lit),(.int .i64 15),(.int .i64 0),(.bool false),(.int .i64 0),(.int .i64 2),(.sl 2 [] .lit),(.int .i64 18),(.int .i64 1),(.bool true),(.int .i64 0),(.int .i64 0),(.sl 2 [] .lit),(.int .i64 19),(.int .i64 0),(.bool false),(.int .i64 0),(.int .i64 3),(.sl 2 [] .lit)]),
 (.cells [(.bool false),(.int .i64 0),(.int .i64 19)]),
 (.cells [(.bool false),(.int .i64 0),(.int .i64 3)]),
 (.cells [(.bool false),(.int .i64 0),(.int .i64 20)]),
 (.cells [(.bool false),(.int .i64 0),(.int .i64 5)]),
 (.cells [(.bool false),(.int .i64 0),(.int .i64 21)]),
 (.lin 0),
 (.cells [(.str [122]),(.int .i64 230)]),
 (.cells [(.str [121]),(.int .i64 89),(.bool false),(.bool false),(.str []),(.bool false)]),
 (.lin 1),
 (.cells [(.str [122]),(.int .i64 97),(.bool false),(.bool false),(.str []),(.bool false)]),
 (.cells [(.int .i64 0),(.int .i64 0)]),
 (.cells [(.int .i64 0),(.int .i64 0)]),
 (.cells [(.ptr 3 0),(.rsl 170 0 22 22 1)]),
 (.cells [.int .i64 (j 0),.int .i64 (j 1),.int .i64 (j 2),.int .i64 (j 3),.int .i64 (j 4),.int .i64 (j 5),.int .i64 (j 6),.int .i64 (j 7),.int .i64 f,.int .i64 a,.int .i64 (j 10),.int .i64 (j 11),.int .i64 b,.int .i64 (j 13),.int .i64 g,.int .i64 c,.int .i64 (j 16),.int .i64 (j 17),.int .i64 g,.int .i64 d,.int .i64 (j 20),.int .i64 (j 21)]),
 (.cells [(.ptr 3 0),(.rsl 170 0 22 22 1)]),
 (.cells [(.int .i64 8),(.int .i64 1),(.bool true),(.int .i64 0),(.int .i64 0),(.sl 2 [(.agg [(.int .i64 1),(.bool false)])] .dead)]),
 (.cells [(.int .i64 9),(.int .i64 0),(.bool false),(.int .i64 0),(.int .i64 7),(.sl 2 [(.agg [(.int .i64 1),(.bool false)])] .dead)]),
 (.cells [(.int .i64 12),(.int .i64 0),(.bool false),(.int .i64 0),(.int .i64 13),(.sl 2 [(.agg [(.int .i64 1),(.bool true)])] .dead)]),
 (.cells [(.int .i64 14),(.int .i64 1),(.bool true),(.int .i64 0),(.int .i64 0),(.sl 2 [] .lit)]),
 (.cells [(.int .i64 15),(.int .i64 0),(.bool false),(.int .i64 0),(.int .i64 2),(.sl 2 [] .lit)]),
 (.cells [(.int .i64 18),(.int .i64 1),(.bool true),(.int .i64 0),(.int .i64 0),(.sl 2 [] .lit)]),
 (.cells [(.int .i64 19),(.int .i64 0),(.bool false),(.int .i64 0),(.int .i64 3),(.sl 2 [] .lit)]),
 (.lin 0),
 (.cells [(.ptr 3 0),(.rsl 170 0 22 22 1),(.sl 1 [(.int .i64 0),(.int .i64 8),(.int .i64 11),(.int .i64 1),(.int .i64 7),(.int .i64 2),(.int .i64 6),(.int .i64 12),(.int .i64 3),(.int .i64 13),(.int .i64 4),(.int .i64 5),(.int .i64 9),(.int .i64 10)] (.live 179 0))])]
def intO (v : AV) : Int := match v with
  | .int _ n => n
  | _ => 0
def joC (x : Option CRes) (k : Nat) : Int := match x with
  | some (.ret _ h _) => (match getF h 170 with
    | some (.cells l) => (match getF l k with
      | some v => intO v
      | none => 0)
    | _ => 0)
  | _ => 0
def esC (x : Option CRes) : Nat := match x with
  | some (.ret _ _ e) => e
  | _ => 0
def goC (j : Nat → Int) (f a b g c d t y z f' a' b' : Int) : Prop :=
  recC 17 [pC, .sl 1 [.int .i64 t] .lit] (hC j f a b g c d) = some (.ret (.sl 1 [.int .i64 y, .int .i64 z] .dead) (hC (joC (recC 17 [pC, .sl 1 [.int .i64 t] .lit] (hC j f a b g c d))) f' a' b' 0 y z) (esC (recC 17 [pC, .sl 1 [.int .i64 t] .lit] (hC j f a b g c d))))
def faultC : Heap := [.cells [.int .i64 0, .int .i64 0]]
def nodesC : AV := match v_parseC with
  | .tuple (x :: _) => x
  | _ => .top
theorem madeC : recC 15 [nodesC, .str [102]] faultC = some (.ret (.tuple [pC, .bool true]) (hC (fun _ => 0) 1 0 0 1 0 0) 1) := by kernel_rfl
theorem go1 (j : Nat → Int) (a b c d : Int) : goC j 1 a b 1 c d 1 1 0 0 1 b := by unfold goC; kernel_rfl
theorem go2 (j : Nat → Int) (a b c d : Int) : goC j 1 a b 0 c d 1 1 d 0 1 b := by unfold goC; kernel_rfl
theorem go3 (j : Nat → Int) (a b c d : Int) : goC j 0 a b 0 c d 1 (addF a 1) d 0 (addF a 1) b := by unfold goC; kernel_rfl
theorem go4 (j : Nat → Int) (a b c d : Int) : goC j 1 a b 1 c d 0 0 b 1 a (addF b 1) := by unfold goC; kernel_rfl
theorem go5 (j : Nat → Int) (a b c d : Int) : goC j 1 a b 0 c d 0 c b 1 a (addF b 1) := by unfold goC; kernel_rfl
theorem go6 (j : Nat → Int) (a b c d : Int) : goC j 0 a b 0 c d 0 c b 0 a (addF b 1) := by unfold goC; kernel_rfl
end
end Go.Proofs
set_option maxRecDepth 100000
namespace Go.Proofs
open Go Go.Abs

theorem same_two {M : Memo} (hM : ∀ a, M 16 a = none) (x y : Int) (la lb : Lin) (H : Heap) :
    orc CC M 16 [.sl 1 [.int .i64 x, .int .i64 y] la, .sl 1 [.int .i64 x, .int .i64 y] lb] H = some (.ret (.int .i64 0) H (lenF H)) := by
  refine begin_ (z := z16) (hM _) (by kernel_rfl) rfl ?_
  have e0 : (envOf [.sl 1 [.int .i64 x, .int .i64 y] la, .sl 1 [.int .i64 x, .int .i64 y] lb] 0 env0).a.a.a = .sl 1 [.int .i64 x, .int .i64 y] la := rfl
  have e1 : (envOf [.sl 1 [.int .i64 x, .int .i64 y] la, .sl 1 [.int .i64 x, .int .i64 y] lb] 0 env0).a.a.b = .sl 1 [.int .i64 x, .int .i64 y] lb := rfl
  generalize envOf [.sl 1 [.int .i64 x, .int .i64 y] la, .sl 1 [.int .i64 x, .int .i64 y] lb] 0 env0 = R at e0 e1
  have i0 : ∀ l, iasV 1 (.sl 1 [.int .i64 x, .int .i64 y] l) (.int .i64 0) = some (.iptr [.int .i64 x]) := fun _ => rfl
  have i1 : ∀ l, iasV 1 (.sl 1 [.int .i64 x, .int .i64 y] l) (.int .i64 1) = some (.iptr [.int .i64 y]) := fun _ => rfl
  have a0 : addF 0 1 = 1 := by decide
  have a1 : addF 1 1 = 2 := by decide
  have l2 : ∀ l, lenV CC 32 (.sl 1 [.int .i64 x, .int .i64 y] l) = some (.int .i64 2) := fun l => by
    have : CC.P.underlying 32 = some (.slice 2) := by kernel_rfl
    rw [lenV_eq]; simp [lenAV, this]
  simp only [z16, q16_0, q16_1, q16_2, q16_3, q16_4, q16_5, q16_6, q16_7, q16_8, q16_9, q16_10, SIM, ST0, e0, e1, i0, i1, a0, a1, l2, lp0, lp1, show ∀ (b : CZ) (r : RG) (ds : Dfs) (s : St), loopN b 99998 r ds s = seqK (loopN b 99997) (b r ds s) from fun _ _ _ _ => rfl, Int.reduceLT, Nat.reduceAdd, Nat.reduceLeDiff]

/-- truths that are handed over -/
def rowB (l : Option (List Bool)) : AV := match l with
  | none => .nils
  | some l => .sl 1 (l.map (.bool ·)) .frz
def lstB : Option (List Bool) → List Bool
  | none => []
  | some l => l
theorem len_rowB (l : Option (List Bool)) : lenV CC 42 (rowB l) = some (.int .i64 ((lstB l).length : Int)) := by
  have : CC.P.underlying 42 = some (.slice 4) := by kernel_rfl
  cases l <;> (rw [lenV_eq]; simp [rowB, lstB, lenAV, this])
theorem ias_rowB {l : Option (List Bool)} {i : Nat} {b : Bool} (h : (lstB l)[i]? = some b) : iasV 1 (rowB l) (.int .i64 (i : Int)) = some (.iptr [.bool b]) := by
  cases l with
  | none => simp [lstB] at h
  | some l =>
    have : getF (l.map (AV.bool ·)) i = some (.bool b) := by rw [getF_eq, List.getElem?_map]; simp only [lstB] at h; rw [h]; rfl
    exact iasV_i this

def yesN (l : List Bool) (i : Nat) : Nat := (l.take i).count true
def noN' (l : List Bool) (i : Nat) : Nat := (l.take i).count false

theorem cntT (l : List Bool) {i : Nat} {b : Bool} (h : l[i]? = some b) : yesN l (i + 1) = (if b then yesN l i + 1 else yesN l i) ∧ noN' l (i + 1) = (if b then noN' l i else noN' l i + 1) := by
  unfold yesN noN'
  rw [List.take_add_one, h]
  cases b <;> simp [List.count_append]
theorem cntS (l : List Bool) {i : Nat} (h : i ≤ l.length) : yesN l i + noN' l i = i := by
  unfold yesN noN'
  have h1 : (l.take i).length = i := by rw [List.length_take]; omega
  have : ∀ m : List Bool, m.count true + m.count false = m.length := by
    intro m
    induction m with
    | nil => rfl
    | cons b m ih => cases b <;> simp [List.count_cons] <;> omega
  rw [this, h1]

/-- memory at an instant: of so many truths that were, and that were not -/
noncomputable def hI (j : Nat → Int) (y n : Nat) : Heap := hC j (cond (Nat.beq y 0) 1 0) (y : Int) (n : Int) (cond (Nat.beq (y + n) 0) 1 0) (y : Int) ((n - 1 : Nat) : Int)

theorem stepT (M : Memo) (hle : RLe recC (orc CC M)) (j : Nat → Int) (y n : Nat) (hb : y + n < 1000) : ∃ j' e, orc CC M 17 [pC, .sl 1 [.int .i64 1] .lit] (hI j y n) = some (.ret (.sl 1 [.int .i64 ((y + 1 : Nat) : Int), .int .i64 ((n - 1 : Nat) : Int)] .dead) (hI j' (y + 1) n) e) := by
  cases y with
  | zero =>
    cases n with
    | zero =>
      have := hle _ _ _ _ (go1 j 0 0 0 0)
      exact ⟨_, _, this⟩
    | succ n =>
      have := hle _ _ _ _ (go2 j 0 ((n + 1 : Nat) : Int) 0 ((n + 1 - 1 : Nat) : Int))
      have e1 : hI j 0 (n + 1) = hC j 1 0 ((n + 1 : Nat) : Int) 0 0 ((n + 1 - 1 : Nat) : Int) := by
        unfold hI; rw [show Nat.beq (0 + (n + 1)) 0 = false by rw [nbeq]; simp]; rfl
      rw [e1]
      have e2 : ∀ j', hI j' (0 + 1) (n + 1) = hC j' 0 1 ((n + 1 : Nat) : Int) 0 1 ((n + 1 - 1 : Nat) : Int) := by
        intro j'; unfold hI; rw [show Nat.beq (0 + 1 + (n + 1)) 0 = false by rw [nbeq]; simp]; rfl
      exact ⟨_, _, this.trans (by rw [e2]; rfl)⟩
  | succ y =>
    have := hle _ _ _ _ (go3 j ((y + 1 : Nat) : Int) (n : Int) ((y + 1 : Nat) : Int) ((n - 1 : Nat) : Int))
    have e1 : hI j (y + 1) n = hC j 0 ((y + 1 : Nat) : Int) (n : Int) 0 ((y + 1 : Nat) : Int) ((n - 1 : Nat) : Int) := by
      unfold hI; rw [show Nat.beq (y + 1 + n) 0 = false by rw [nbeq]; simp]; rfl
    have ha : addF ((y + 1 : Nat) : Int) 1 = ((y + 1 + 1 : Nat) : Int) := addF_i (y + 1) 1 (by unfold natMax; omega)
    rw [e1]
    rw [ha] at this
    have e2 : ∀ j', hI j' (y + 1 + 1) n = hC j' 0 ((y + 1 + 1 : Nat) : Int) (n : Int) 0 ((y + 1 + 1 : Nat) : Int) ((n - 1 : Nat) : Int) := by
      intro j'; unfold hI; rw [show Nat.beq (y + 1 + 1 + n) 0 = false by rw [nbeq]; simp]; rfl
    exact ⟨_, _, this.trans (by rw [e2])⟩
theorem stepF (M : Memo) (hle : RLe recC (orc CC M)) (j : Nat → Int) (y n : Nat) (hb : y + n < 1000) : ∃ j' e, orc CC M 17 [pC, .sl 1 [.int .i64 0] .lit] (hI j y n) = some (.ret (.sl 1 [.int .i64 (y : Int), .int .i64 (n : Int)] .dead) (hI j' y (n + 1)) e) := by
  have ha : addF (n : Int) 1 = ((n + 1 : Nat) : Int) := addF_i n 1 (by unfold natMax; omega)
  cases y with
  | zero =>
    cases n with
    | zero =>
      have := hle _ _ _ _ (go4 j 0 0 0 0)
      exact ⟨_, _, this⟩
    | succ n =>
      have := hle _ _ _ _ (go5 j 0 ((n + 1 : Nat) : Int) 0 ((n + 1 - 1 : Nat) : Int))
      have e1 : hI j 0 (n + 1) = hC j 1 0 ((n + 1 : Nat) : Int) 0 0 ((n + 1 - 1 : Nat) : Int) := by
        unfold hI; rw [show Nat.beq (0 + (n + 1)) 0 = false by rw [nbeq]; simp]; rfl
      rw [e1]
      rw [ha] at this
      have e2 : ∀ j', hI j' 0 (n + 1 + 1) = hC j' 1 0 ((n + 1 + 1 : Nat) : Int) 0 0 ((n + 1 : Nat) : Int) := by
        intro j'; unfold hI; rw [show Nat.beq (0 + (n + 1 + 1)) 0 = false by rw [nbeq]; simp]; rfl
      exact ⟨_, _, this.trans (by rw [e2]; rfl)⟩
  | succ y =>
    have := hle _ _ _ _ (go6 j ((y + 1 : Nat) : Int) (n : Int) ((y + 1 : Nat) : Int) ((n - 1 : Nat) : Int))
    have e1 : hI j (y + 1) n = hC j 0 ((y + 1 : Nat) : Int) (n : Int) 0 ((y + 1 : Nat) : Int) ((n - 1 : Nat) : Int) := by
      unfold hI; rw [show Nat.beq (y + 1 + n) 0 = false by rw [nbeq]; simp]; rfl
    rw [e1]
    rw [ha] at this
    have e2 : ∀ j', hI j' (y + 1) (n + 1) = hC j' 0 ((y + 1 : Nat) : Int) ((n + 1 : Nat) : Int) 0 ((y + 1 : Nat) : Int) (n : Int) := by
      intro j'; unfold hI; rw [show Nat.beq (y + 1 + (n + 1)) 0 = false by rw [nbeq]; simp]; rfl
    exact ⟨_, _, this.trans (by rw [e2])⟩
end Go.Proofs
set_option maxRecDepth 100000
namespace Go.Proofs
open Go Go.Abs

theorem bs32_1 (a : Int) : bslV CC 32 1 [(0, .int .i64 a)] = some (.sl 1 [.int .i64 a] .lit) := by kernel_rfl
theorem bs32_2 (a b : Int) : bslV CC 32 2 [(0, .int .i64 a), (1, .int .i64 b)] = some (.sl 1 [.int .i64 a, .int .i64 b] .lit) := by kernel_rfl
theorem mx_1 (n : Nat) : minmaxAV true (.int .i64 ((n : Int) - 1)) [.int .i64 0] = some (.int .i64 ((n - 1 : Nat) : Int)) := by
  simp only [minmaxAV, if_true]
  by_cases h : (0 : Int) > (n : Int) - 1
  · rw [if_pos h, show ((n - 1 : Nat) : Int) = 0 by omega]
  · rw [if_neg h, show ((n - 1 : Nat) : Int) = (n : Int) - 1 by omega]
theorem mx_0 (n : Nat) : minmaxAV true (.int .i64 (n : Int)) [.int .i64 0] = some (.int .i64 (n : Int)) := by
  simp only [minmaxAV, if_true]
  rw [if_neg (by omega)]
theorem add_m1 (n : Nat) (h : n < 1000) : addF ((n : Int) - 1) 1 = (n : Int) := by
  rw [addF_eq, show (n : Int) - 1 + 1 = ((n : Nat) : Int) by omega]
  exact wrap_nat (by unfold natMax; omega)
theorem min0 (a : Nat) : min 0 a = 0 := Nat.zero_min a

/-- where the law's loop stands -/
structure ClkI (l : Option (List Bool)) (i : Nat) (r : RG) : Prop where
  h0 : r.a.a.a = rowB l
  h5 : r.a.a.f = pC
  h7 : r.a.a.h = .int .i64 (yesN (lstB l) i : Int)
  h8 : r.a.b.a = .int .i64 ((noN' (lstB l) i : Int) - 1)
  h9 : r.a.b.b = .int .i64 (i : Int)

theorem clk_loop {M : Memo} (hM : ∀ a, M 16 a = none) (hle : RLe recC (orc CC M)) (l : Option (List Bool)) : ∀ (d i : Nat), d + i = 40 → i ≤ (lstB l).length → ∀ (fu : Nat), d < fu → ∀ (r : RG) (j : Nat → Int), ClkI l i r →
    ∃ r' H', loopN (q5_18 (orc CC M)) fu r [] ⟨hI j (yesN (lstB l) i) (noN' (lstB l) i), 0⟩ = some (.exit 0, r', [], ⟨H', 0⟩) := by
  intro d
  induction d with
  | zero =>
    intro i hi hil fu hfu r j hI
    obtain ⟨fu', rfl⟩ : ∃ f, fu = f + 1 := ⟨fu - 1, by omega⟩
    have hi40 : i = 40 := by omega
    have hc2 : decide ((i : Int) < 40) = false := by subst hi40; rfl
    cases hc1 : decide ((i : Int) < ((lstB l).length : Int)) <;>
    · simp only [loopN, q5_18, q5_9, SIM, ST0, ST1, hI.h0, hI.h9, len_rowB, hc1, hc2]
      exact ⟨_, _, rfl⟩
  | succ d ih =>
    intro i hi hil fu hfu r j hI
    obtain ⟨fu', rfl⟩ : ∃ f, fu = f + 1 := ⟨fu - 1, by omega⟩
    by_cases hlt : i < (lstB l).length
    · have hc1 : decide ((i : Int) < ((lstB l).length : Int)) = true := by simp; omega
      have hc2 : decide ((i : Int) < 40) = true := by simp; omega
      have ha : addF (i : Int) 1 = ((i + 1 : Nat) : Int) := addF_i i 1 (by unfold natMax; omega)
      have hg : (lstB l)[i]? = some (lstB l)[i] := by simp [hlt]
      have hias := ias_rowB hg
      have hsum := cntS (lstB l) (Nat.le_of_lt hlt)
      obtain ⟨c1, c2⟩ := cntT (lstB l) hg
      cases hb : (lstB l)[i] with
      | true =>
        rw [hb] at hias c1 c2
        simp only [if_true] at c1 c2
        obtain ⟨j', e, hst⟩ := stepT M hle j (yesN (lstB l) i) (noN' (lstB l) i) (by omega)
        have hy : addF (yesN (lstB l) i : Int) 1 = ((yesN (lstB l) i + 1 : Nat) : Int) := addF_i _ 1 (by unfold natMax; omega)
        simp only [loopN, q5_18, q5_9, q5_10, q5_11, q5_12, q5_13, q5_15, q5_17, SIM, ST0, ST1, hI.h0, hI.h5, hI.h7, hI.h8, hI.h9, len_rowB, hc1, hc2, hias, hy, bs32_1, bs32_2, mx_1, hst, same_two hM, ha, min0]
        have key := fun r hr => ih (i + 1) (by omega) (by omega) fu' (by omega) r j' hr
        rw [c1, c2] at key
        refine key _ ?_
        exact ⟨by first | rfl | exact hI.h0, by first | rfl | exact hI.h5, by rw [c1], by first | (rw [c2]; exact hI.h8) | (rw [c2]), rfl⟩
      | false =>
        rw [hb] at hias c1 c2
        simp only [if_false, Bool.false_eq_true] at c1 c2
        obtain ⟨j', e, hst⟩ := stepF M hle j (yesN (lstB l) i) (noN' (lstB l) i) (by omega)
        have hn := add_m1 (noN' (lstB l) i) (by omega)
        simp only [loopN, q5_18, q5_9, q5_10, q5_11, q5_14, q5_15, q5_17, SIM, ST0, ST1, hI.h0, hI.h5, hI.h7, hI.h8, hI.h9, len_rowB, hc1, hc2, hias, hn, bs32_1, bs32_2, mx_0, hst, same_two hM, ha, min0]
        have key := fun r hr => ih (i + 1) (by omega) (by omega) fu' (by omega) r j' hr
        rw [c1, c2] at key
        refine key _ ?_
        refine ⟨by first | rfl | exact hI.h0, by first | rfl | exact hI.h5, by rw [c1]; first | rfl | exact hI.h7, ?_, rfl⟩
        rw [c2]
        show AV.int .i64 _ = AV.int .i64 _
        congr 1
        omega
    · have hc1 : decide ((i : Int) < ((lstB l).length : Int)) = false := by simp; omega
      simp only [loopN, q5_18, q5_9, SIM, ST0, ST1, hI.h0, hI.h9, len_rowB, hc1]
      exact ⟨_, _, rfl⟩

theorem hp14 : memoL m_C 14 [.str [110, 111, 100, 101, 32, 99, 111, 117, 110, 116, 40, 97, 58, 32, 105, 110, 116, 41, 32, 114, 101, 116, 117, 114, 110, 115, 32, 40, 110, 58, 32, 105, 110, 116, 41, 32, 108, 101, 116, 32, 110, 32, 61, 32, 97, 32, 45, 62, 32, 112, 114, 101, 32, 110, 32, 43, 32, 97, 59, 32, 116, 101, 108, 32, 110, 111, 100, 101, 32, 102, 40, 99, 58, 32, 98, 111, 111, 108, 41, 32, 114, 101, 116, 117, 114, 110, 115, 32, 40, 121, 58, 32, 105, 110, 116, 44, 32, 122, 58, 32, 105, 110, 116, 41, 32, 118, 97, 114, 32, 116, 58, 32, 105, 110, 116, 32, 119, 104, 101, 110, 32, 99, 59, 32, 117, 58, 32, 105, 110, 116, 32, 119, 104, 101, 110, 32, 110, 111, 116, 32, 99, 59, 32, 108, 101, 116, 32, 116, 32, 61, 32, 99, 111, 117, 110, 116, 40, 49, 32, 119, 104, 101, 110, 32, 99, 41, 59, 32, 117, 32, 61, 32, 48, 32, 102, 98, 121, 32, 40, 117, 32, 43, 32, 49, 41, 59, 32, 121, 32, 61, 32, 109, 101, 114, 103, 101, 32, 99, 32, 40, 116, 41, 32, 40, 40, 48, 32, 45, 62, 32, 112, 114, 101, 32, 121, 41, 32, 119, 104, 101, 110, 32, 110, 111, 116, 32, 99, 41, 59, 32, 122, 32, 61, 32, 109, 101, 114, 103, 101, 32, 99, 32, 40, 40, 48, 32, 45, 62, 32, 112, 114, 101, 32, 122, 41, 32, 119, 104, 101, 110, 32, 99, 41, 32, 40, 117, 41, 59, 32, 116, 101, 108]] = some v_parseC := by kernel_rfl
theorem hp13 : memoL m_C 13 [] = some (.bool true) := by kernel_rfl
theorem ex0 : extV v_parseC 0 = some nodesC := by kernel_rfl
theorem ex1 : extV v_parseC 1 = some (.agg [.int .i64 0, .int .i64 0]) := by kernel_rfl

theorem law5 (l : Option (List Bool)) : orc CC (memoL m_C) 5 [rowB l] [] = some (.ret (.bool true) [] 0) := by
  have hle : RLe recC (orc CC (memoL m_C)) := orc_le cc_mask (M := memoL m_C) (T := tget tab) tab_ok 3000
  refine begin_ (z := z5) rfl (by kernel_rfl) rfl ?_
  have e0 : (envOf [rowB l] 0 env0).a.a.a = rowB l := rfl
  generalize envOf [rowB l] 0 env0 = R at e0
  have h14 := fun h => orc_memo (C := CC) (h := h) hp14
  have h13 := fun h => orc_memo (C := CC) (h := h) hp13
  have hm : orc CC (memoL m_C) 15 [nodesC, .str [102]] [.cells [.int .i64 0, .int .i64 0]] = some (.ret (.tuple [pC, .bool true]) (hI (fun _ => 0) 0 0) 1) := hle _ _ _ _ madeC
  obtain ⟨f, hf⟩ := sk (P := ClkI l 0) fun r hr => clk_loop (M := memoL m_C) (fun _ => rfl) hle l 40 0 rfl (Nat.zero_le _) 100000 (by omega) r (fun _ => 0) hr
  have hf' : ∀ r, (r.a.a.a = rowB l ∧ r.a.a.f = pC ∧ r.a.a.h = .int .i64 0 ∧ r.a.b.a = .int .i64 (-1) ∧ r.a.b.b = .int .i64 0) → ∃ H', loopN (q5_18 (orc CC (memoL m_C))) 100000 r [] ⟨hI (fun _ => 0) 0 0, 0⟩ = some (.exit 0, f r, [], ⟨H', 0⟩) :=
    fun r ⟨k0, k5, k7, k8, k9⟩ => hf r ⟨k0, k5, k7, k8, k9⟩
  have pre : ∃ r, (r.a.a.a = rowB l ∧ r.a.a.f = pC ∧ r.a.a.h = .int .i64 0 ∧ r.a.b.a = .int .i64 (-1) ∧ r.a.b.b = .int .i64 0) ∧ z5.sh (orc CC (memoL m_C)) R [] ⟨[], lenF ([] : Heap)⟩ = seqK (seqZ (q5_19 (orc CC (memoL m_C))) retZ) (blkK 0 (loopN (q5_18 (orc CC (memoL m_C))) 100000 r [] ⟨hI (fun _ => 0) 0 0, 0⟩)) := by
    simp only [z5, q5_0, q5_1, q5_3, q5_4, q5_5, q5_7, q5_8, SIM, ST0, ST1, e0, h13, h14, ex0, ex1, hm, List.length_nil, min0, Nat.reduceAdd, Nat.reduceLeDiff]
    refine ⟨_, ?_, rfl⟩
    exact ⟨by first | rfl | exact e0, rfl, rfl, rfl, rfl⟩
  obtain ⟨r0, hr0, hpre⟩ := pre
  rw [hpre]
  obtain ⟨H', h1⟩ := hf' r0 hr0
  rw [h1]
  simp only [z5, q5_19, SIM, ST0]
end Go.Proofs
