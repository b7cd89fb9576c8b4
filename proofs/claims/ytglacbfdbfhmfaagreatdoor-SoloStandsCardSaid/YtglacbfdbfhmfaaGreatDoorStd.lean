/- the law, instant by instant. Part of the proof of girandolelaw11.SoloStands. -/
import Derived.Test.YtglacbfdbfhmfaaGreatDoorBank
set_option linter.unusedVariables false
set_option linter.unusedSimpArgs false
set_option maxRecDepth 1000000
namespace Go.Proofs
open Go Go.Abs
def ii (n : Int) : AV := .int .i64 n
def ss (l : List Nat) : AV := .str l
def sE : AV := .str []
def tT : AV := .bool true
def fF : AV := .bool false
theorem memo1_par : ParKM (memoL memo1) := { memo1_fresh with par := parM_of (by decide) }
def w14 : AObj := (.cells [(ss [110]),(ii 28),fF,fF,sE,fF])
def w13 : AObj := (.cells [(ss [107]),(ii 11),fF,fF,sE,fF])
def w12 : AV := (.sl 6 [(.agg [(ss [99]),(ii 73),tT,fF,sE,fF])] .dead)
def w11 : AV := (.sl 6 [(.agg [(ss [121]),(ii 91),fF,fF,sE,fF]),(.agg [(ss [122]),(ii 99),fF,fF,sE,fF])] .dead)
def w10 : AV := (.sl 6 [(.agg [(ss [110]),(ii 28),fF,fF,sE,fF])] .dead)
def w9 : AV := (.sl 6 [(.agg [(ss [107]),(ii 11),fF,fF,sE,fF])] .dead)
def w8 : AV := (.sl 2 [(.agg [(ss [110]),(ii 40)])] .dead)
def w7 : AV := (ss [99,111,117,110,116])
def w6 : AV := (.sl 6 [(.agg [(ii 1),(ii 171),(ii 7),sE,fF,.nils]),(.agg [(ii 13),(ii 177),(ii 0),(ss [99,111,117,110,116]),fF,(.sl 6 [(.agg [(ii 1),(ii 183),(ii 3),sE,fF,.nils])] .lit)])] .lit)
def w5 : AV := (.sl 6 [(.agg [(ii 3),(ii 58),(ii 0),(ss [110]),fF,.nils])] .lit)
def w4 : AV := (.sl 6 [(.agg [(ii 3),(ii 118),(ii 0),(ss [99]),fF,.nils]),(.agg [(ii 13),(ii 125),(ii 0),(ss [99,111,117,110,116]),fF,(.sl 6 [(.agg [(ii 1),(ii 131),(ii 1),sE,fF,.nils])] .lit)]),(.agg [(ii 13),(ii 139),(ii 0),(ss [99,111,117,110,116]),fF,(.sl 6 [(.agg [(ii 1),(ii 145),(ii 2),sE,fF,.nils])] .lit)])] .lit)
def w3 : AV := (.sl 6 [(.agg [(ii 3),(ii 156),(ii 0),(ss [99]),fF,.nils]),(.agg [(ii 1),(ii 163),(ii 0),sE,fF,.nils]),(.agg [(ii 9),(ii 173),(ii 0),sE,fF,(.sl 6 [(.agg [(ii 1),(ii 171),(ii 7),sE,fF,.nils]),(.agg [(ii 13),(ii 177),(ii 0),(ss [99,111,117,110,116]),fF,(.sl 6 [(.agg [(ii 1),(ii 183),(ii 3),sE,fF,.nils])] .lit)])] .lit)])] .lit)
def w2 : AV := (.sl 8 [(.agg [(.sl 2 [(.agg [(ss [121]),(ii 111)])] .dead),fF,(ii 7),(ii 115),(ii 0),sE,fF,(.sl 6 [(.agg [(ii 3),(ii 118),(ii 0),(ss [99]),fF,.nils]),(.agg [(ii 13),(ii 125),(ii 0),(ss [99,111,117,110,116]),fF,(.sl 6 [(.agg [(ii 1),(ii 131),(ii 1),sE,fF,.nils])] .lit)]),(.agg [(ii 13),(ii 139),(ii 0),(ss [99,111,117,110,116]),fF,(.sl 6 [(.agg [(ii 1),(ii 145),(ii 2),sE,fF,.nils])] .lit)])] .lit)]),(.agg [(.sl 2 [(.agg [(ss [122]),(ii 149)])] .dead),fF,(ii 7),(ii 153),(ii 0),sE,fF,(.sl 6 [(.agg [(ii 3),(ii 156),(ii 0),(ss [99]),fF,.nils]),(.agg [(ii 1),(ii 163),(ii 0),sE,fF,.nils]),(.agg [(ii 9),(ii 173),(ii 0),sE,fF,(.sl 6 [(.agg [(ii 1),(ii 171),(ii 7),sE,fF,.nils]),(.agg [(ii 13),(ii 177),(ii 0),(ss [99,111,117,110,116]),fF,(.sl 6 [(.agg [(ii 1),(ii 183),(ii 3),sE,fF,.nils])] .lit)])] .lit)])] .lit)])] .dead)
def w1 : AV := (.sl 6 [(.agg [(ii 1),(ii 49),(ii 0),sE,fF,.nils]),(.agg [(ii 10),(ii 54),(ii 0),sE,fF,(.sl 6 [(.agg [(ii 3),(ii 58),(ii 0),(ss [110]),fF,.nils])] .lit)])] .lit)
def w0 : AV := (.sl 6 [(.agg [(ii 3),(ii 44),(ii 0),(ss [107]),fF,.nils]),(.agg [(ii 8),(ii 51),(ii 0),sE,fF,(.sl 6 [(.agg [(ii 1),(ii 49),(ii 0),sE,fF,.nils]),(.agg [(ii 10),(ii 54),(ii 0),sE,fF,(.sl 6 [(.agg [(ii 3),(ii 58),(ii 0),(ss [110]),fF,.nils])] .lit)])] .lit)])] .lit)
def textS : List Nat := [110,111,100,101,32,99,111,117,110,116,40,107,58,32,105,110,116,41,32,114,101,116,117,114,110,115,32,40,110,58,32,105,110,116,41,32,108,101,116,32,110,32,61,32,107,32,43,32,40,48,32,45,62,32,112,114,101,32,110,41,59,32,116,101,108,32,110,111,100,101,32,102,40,99,58,32,98,111,111,108,41,32,114,101,116,117,114,110,115,32,40,121,58,32,105,110,116,44,32,122,58,32,105,110,116,41,32,108,101,116,32,121,32,61,32,105,102,32,99,32,116,104,101,110,32,99,111,117,110,116,40,49,41,32,101,108,115,101,32,99,111,117,110,116,40,50,41,59,32,122,32,61,32,105,102,32,99,32,116,104,101,110,32,48,32,101,108,115,101,32,40,55,32,102,98,121,32,99,111,117,110,116,40,51,41,41,59,32,116,101,108]
def v_parseS : AV := (.tuple [(.sl 6 [(.agg [w7,(ii 5),w9,w10,.nils,(.sl 8 [(.agg [w8,fF,(ii 6),(ii 46),(ii 0),(ss [43]),fF,w0])] .dead)]),(.agg [(ss [102]),(ii 71),w12,w11,.nils,w2])] .dead),(.agg [(ii 0),(ii 0)])])
theorem r_awake11 : callK CC (memoL memo1) (tget tab) kPar 3000 13 [] [] = some (.ret (.bool true) [] 0) := by kernel_rfl
def m_aw11 : List (FuncId × List AV × AV) := (13, [], .bool true) :: memo1
theorem m_aw11_ok : MemoOk CC (memoL m_aw11) := memo_cons cc_goodF cc_scal memo1_ok memo1_ok rfl (by kernel_rfl) (orc_callK cc_mask tabT (kPar_ok memo1_par) r_awake11)
theorem r_parseS : callK CC (memoL memo1) (tget tab) kPar 3000 14 [.str textS] [] = some (.ret v_parseS [] 0) := by kernel_rfl
def m_S : List (FuncId × List AV × AV) := (14, [.str textS], v_parseS) :: m_aw11
theorem m_S_ok : MemoOk CC (memoL m_S) := memo_cons cc_goodF cc_scal m_aw11_ok memo1_ok rfl (by kernel_rfl) (orc_callK cc_mask tabT (kPar_ok memo1_par) r_parseS)
abbrev EqR.v (q : EqR) : AV := .agg [.str q.op, .int .i64 (q.dst : Int), q.A, q.O]
abbrev atsV (l : List Atm) (n : Lin) : AV := .sl 3 (l.map Atm.v) n
def at0 : List Atm := [(false, 0, 0)]
def eS0 : EqR := ⟨[99,111,112,121], 1, atsV at0 (.live 10 0), .nils, at0, []⟩
def at1 : List Atm := [(true, 1, 0)]
def eS1 : EqR := ⟨[99,111,112,121], 4, atsV at1 .dead, (.sl 2 [] .lit), at1, []⟩
def at2 : List Atm := [(false, 0, 6), (true, 0, 0), (false, 0, 7)]
def eS2 : EqR := ⟨[105,102], 8, atsV at2 .lit, (.sl 2 [] .lit), at2, []⟩
def at3 : List Atm := [(false, 0, 4), (false, 0, 8)]
def eS3 : EqR := ⟨[43], 9, atsV at3 (.live 53 1), (.sl 2 [] .lit), at3, []⟩
def at4 : List Atm := [(false, 0, 9)]
def eS4 : EqR := ⟨[99,111,112,121], 5, atsV at4 (.live 77 0), (.sl 2 [] .lit), at4, []⟩
def at5 : List Atm := [(true, 2, 0)]
def eS5 : EqR := ⟨[99,111,112,121], 10, atsV at5 .dead, (.sl 2 [] .lit), at5, []⟩
def at6 : List Atm := [(false, 0, 12), (true, 0, 0), (false, 0, 13)]
def eS6 : EqR := ⟨[105,102], 14, atsV at6 .lit, (.sl 2 [] .lit), at6, []⟩
def at7 : List Atm := [(false, 0, 10), (false, 0, 14)]
def eS7 : EqR := ⟨[43], 15, atsV at7 (.live 102 1), (.sl 2 [] .lit), at7, []⟩
def at8 : List Atm := [(false, 0, 15)]
def eS8 : EqR := ⟨[99,111,112,121], 11, atsV at8 (.live 126 0), (.sl 2 [] .lit), at8, []⟩
def at9 : List Atm := [(false, 0, 1), (false, 0, 5), (false, 0, 11)]
def eS9 : EqR := ⟨[105,102], 16, atsV at9 (.live 31 2), (.sl 2 [] .lit), at9, []⟩
def at10 : List Atm := [(false, 0, 16)]
def eS10 : EqR := ⟨[99,111,112,121], 2, atsV at10 (.live 131 0), (.sl 2 [] .lit), at10, []⟩
def at11 : List Atm := [(true, 3, 0)]
def eS11 : EqR := ⟨[99,111,112,121], 18, atsV at11 .dead, (.sl 2 [] .lit), at11, []⟩
def at12 : List Atm := [(false, 0, 20), (true, 0, 0), (false, 0, 21)]
def eS12 : EqR := ⟨[105,102], 22, atsV at12 .lit, (.sl 2 [] .lit), at12, []⟩
def at13 : List Atm := [(false, 0, 18), (false, 0, 22)]
def eS13 : EqR := ⟨[43], 23, atsV at13 (.live 170 1), (.sl 2 [] .lit), at13, []⟩
def at14 : List Atm := [(false, 0, 23)]
def eS14 : EqR := ⟨[99,111,112,121], 19, atsV at14 (.live 194 0), (.sl 2 [] .lit), at14, []⟩
def at15 : List Atm := [(false, 0, 1), (true, 0, 0), (false, 0, 17)]
def eS15 : EqR := ⟨[105,102], 24, atsV at15 (.live 139 2), (.sl 2 [] .lit), at15, []⟩
def at16 : List Atm := [(false, 0, 24)]
def eS16 : EqR := ⟨[99,111,112,121], 3, atsV at16 (.live 200 0), (.sl 2 [] .lit), at16, []⟩
def eqsS : List EqR := [eS0, eS1, eS2, eS3, eS4, eS5, eS6, eS7, eS8, eS9, eS10, eS11, eS12, eS13, eS14, eS15, eS16]
def mS0 : MemR := ⟨6, 1, (true, 0, 0), (.sl 2 [] .lit), []⟩
def mS1 : MemR := ⟨7, 0, (false, 0, 5), (.sl 2 [] .lit), []⟩
def mS2 : MemR := ⟨12, 1, (true, 0, 0), (.sl 2 [] .lit), []⟩
def mS3 : MemR := ⟨13, 0, (false, 0, 11), (.sl 2 [] .lit), []⟩
def mS4 : MemR := ⟨17, 7, (false, 0, 19), (.sl 2 [] .lit), []⟩
def mS5 : MemR := ⟨20, 1, (true, 0, 0), (.sl 2 [] .lit), []⟩
def mS6 : MemR := ⟨21, 0, (false, 0, 19), (.sl 2 [] .lit), []⟩
def msS : List MemR := [mS0, mS1, mS2, mS3, mS4, mS5, mS6]
def ordS : List Nat := [0, 1, 2, 5, 6, 11, 12, 15, 3, 7, 13, 16, 4, 8, 14, 9, 10]
def hS (cs : List AV) : Heap := [(.cells [(ii 0),(ii 0)]),
 (.cells [(ii 0),(ii 0)]),
 (.cells [(ss [102]),(ii 71),w12,w11,.nils,w2]),
 (.cells [(ss [102]),(ii 71),(ii 25),(.sl 1 [(ii 0)] (.live 9 0)),(.sl 1 [(ii 2),(ii 3)] (.live 203 1)),(.sl 4 (eqsS.map EqR.v) (.live 20 16)),(.rsl 189 0 7 7 6),.nils,.nils,(ii 31)]),
 (.cells [(.ptr 3 0),(.sl 6 [(.agg [w7,(ii 5),w9,w10,.nils,(.sl 8 [(.agg [w8,fF,(ii 6),(ii 46),(ii 0),(ss [43]),fF,w0])] .dead)]),(.agg [(ss [102]),(ii 71),w12,w11,.nils,w2])] .dead)]),
 (.cells [(.ptr 4 0)]),
 (.cells [(ii 0),(ii 0)]),
 (.cells [(ss [102]),(ii 71),w12,w11,.nils,w2]),
 (.cells [(ss [99]),(ii 73),tT,fF,sE,fF]),
 (.lin 0),
 (.lin 0),
 (.cells [(.ptr 4 0)]),
 (.cells [(ss [102]),(ii 71),w12,w11,.nils,w2]),
 (.map [((ss [99]),(ii 1)),((ss [121]),(ii 2)),((ss [122]),(ii 3))]),
 (.map []),
 (.cells [(ss [102]),(ii 71),w12,w11,.nils,w2,(.map 13),(.map 14),.nils]),
 (.cells [(ss [99]),(ii 73),tT,fF,sE,fF]),
 (.cells [(ss [121]),(ii 91),fF,fF,sE,fF]),
 (.cells [(ss [122]),(ii 99),fF,fF,sE,fF]),
 (.cells [(ss [99]),(ii 73),tT,fF,sE,fF]),
 (.lin 16),
 (.cells [(.sl 2 [(.agg [(ss [121]),(ii 111)])] .dead),fF,(ii 7),(ii 115),(ii 0),sE,fF,w4]),
 (.cells [(.sl 2 [(.agg [(ss [122]),(ii 149)])] .dead),fF,(ii 7),(ii 153),(ii 0),sE,fF,w3]),
 (.cells [(.sl 2 [(.agg [(ss [121]),(ii 111)])] .dead),fF,(ii 7),(ii 115),(ii 0),sE,fF,w4]),
 (.cells [(.sl 2 [(.agg [(ss [122]),(ii 149)])] .dead),fF,(ii 7),(ii 153),(ii 0),sE,fF,w3]),
 (.cells [(.sl 2 [(.agg [(ss [121]),(ii 111)])] .dead),fF,(ii 7),(ii 115),(ii 0),sE,fF,w4]),
 (.cells [(.sl 2 [(.agg [(ss [121]),(ii 111)])] .dead),fF,(ii 7),(ii 115),(ii 0),sE,fF,w4]),
 (.cells [(ii 7),(ii 115),(ii 0),sE,fF,w4]),
 (.cells [(ii 7),(ii 115),(ii 0),sE,fF,w4]),
 (.cells [fF,(ii 0),(ii 16)]),
 (.cells [(ii 3),(ii 118),(ii 0),(ss [99]),fF,.nils]),
 (.lin 2),
 (.cells [(ii 13),(ii 125),(ii 0),w7,fF,(.sl 6 [(.agg [(ii 1),(ii 131),(ii 1),sE,fF,.nils])] .lit)]),
 (.cells [(ii 13),(ii 125),(ii 0),w7,fF,(.sl 6 [(.agg [(ii 1),(ii 131),(ii 1),sE,fF,.nils])] .lit)]),
 (.cells [fF,(ii 0),(ii 5)]),
 (.cells [(ii 13),(ii 125),(ii 0),w7,fF,(.sl 6 [(.agg [(ii 1),(ii 131),(ii 1),sE,fF,.nils])] .lit)]),
 (.cells [w7,(ii 5),w9,w10,.nils,(.sl 8 [(.agg [w8,fF,(ii 6),(ii 46),(ii 0),(ss [43]),fF,w0])] .dead)]),
 (.cells [(.ptr 4 0)]),
 (.cells [w7,(ii 5),w9,w10,.nils,(.sl 8 [(.agg [w8,fF,(ii 6),(ii 46),(ii 0),(ss [43]),fF,w0])] .dead)]),
 (.map [((ss [107]),(ii 4)),((ss [110]),(ii 5))]),
 (.map []),
 (.cells [w7,(ii 5),w9,w10,.nils,(.sl 8 [(.agg [w8,fF,(ii 6),(ii 46),(ii 0),(ss [43]),fF,w0])] .dead),(.map 39),(.map 40),(.sl 2 [] .lit)]),
 w13,
 w14,
 w13,
 (.cells [w8,fF,(ii 6),(ii 46),(ii 0),(ss [43]),fF,w0]),
 (.cells [w8,fF,(ii 6),(ii 46),(ii 0),(ss [43]),fF,w0]),
 (.cells [w8,fF,(ii 6),(ii 46),(ii 0),(ss [43]),fF,w0]),
 (.cells [w8,fF,(ii 6),(ii 46),(ii 0),(ss [43]),fF,w0]),
 (.cells [(ii 6),(ii 46),(ii 0),(ss [43]),fF,w0]),
 (.cells [(ii 6),(ii 46),(ii 0),(ss [43]),fF,w0]),
 (.cells [fF,(ii 0),(ii 9)]),
 (.cells [(ii 3),(ii 44),(ii 0),(ss [107]),fF,.nils]),
 (.lin 1),
 (.cells [(ii 8),(ii 51),(ii 0),sE,fF,w1]),
 (.cells [(ii 8),(ii 51),(ii 0),sE,fF,w1]),
 (.cells [fF,(ii 0),(ii 8)]),
 (.cells [(ii 8),(ii 51),(ii 0),sE,fF,w1]),
 (.cells [fF,(ii 0),(ii 8)]),
 (.cells [fF,(ii 0),(ii 6)]),
 (.cells [(ii 6),(ii 1),fF,(ii 0),(ii 0),(.sl 2 [] .lit)]),
 .gone,
 (.cells [fF,(ii 0),(ii 6)]),
 (.cells [(ii 1),(ii 49),(ii 0),sE,fF,.nils]),
 (.lin 1),
 (.cells [(ii 10),(ii 54),(ii 0),sE,fF,w5]),
 (.cells [(ii 10),(ii 54),(ii 0),sE,fF,w5]),
 (.cells [fF,(ii 0),(ii 7)]),
 (.cells [(ii 10),(ii 54),(ii 0),sE,fF,w5]),
 (.cells [fF,(ii 0),(ii 7)]),
 (.cells [fF,(ii 0),(ii 7)]),
 (.cells [(ii 7),(ii 0),fF,(ii 0),(ii 0),(.sl 2 [] .lit)]),
 .gone,
 (.cells [fF,(ii 0),(ii 7)]),
 (.cells [fF,(ii 0),(ii 5)]),
 (.cells [fF,(ii 0),(ii 8)]),
 (.cells [fF,(ii 0),(ii 9)]),
 (.lin 0),
 (.cells [(ss [110]),(ii 40)]),
 w14,
 (.lin 0),
 (.cells [(ii 13),(ii 139),(ii 0),w7,fF,(.sl 6 [(.agg [(ii 1),(ii 145),(ii 2),sE,fF,.nils])] .lit)]),
 (.cells [(ii 13),(ii 139),(ii 0),w7,fF,(.sl 6 [(.agg [(ii 1),(ii 145),(ii 2),sE,fF,.nils])] .lit)]),
 (.cells [fF,(ii 0),(ii 11)]),
 (.cells [(ii 13),(ii 139),(ii 0),w7,fF,(.sl 6 [(.agg [(ii 1),(ii 145),(ii 2),sE,fF,.nils])] .lit)]),
 (.cells [w7,(ii 5),w9,w10,.nils,(.sl 8 [(.agg [w8,fF,(ii 6),(ii 46),(ii 0),(ss [43]),fF,w0])] .dead)]),
 (.cells [(.ptr 4 0)]),
 (.cells [w7,(ii 5),w9,w10,.nils,(.sl 8 [(.agg [w8,fF,(ii 6),(ii 46),(ii 0),(ss [43]),fF,w0])] .dead)]),
 (.map [((ss [107]),(ii 10)),((ss [110]),(ii 11))]),
 (.map []),
 (.cells [w7,(ii 5),w9,w10,.nils,(.sl 8 [(.agg [w8,fF,(ii 6),(ii 46),(ii 0),(ss [43]),fF,w0])] .dead),(.map 88),(.map 89),(.sl 2 [] .lit)]),
 w13,
 w14,
 w13,
 (.cells [w8,fF,(ii 6),(ii 46),(ii 0),(ss [43]),fF,w0]),
 (.cells [w8,fF,(ii 6),(ii 46),(ii 0),(ss [43]),fF,w0]),
 (.cells [w8,fF,(ii 6),(ii 46),(ii 0),(ss [43]),fF,w0]),
 (.cells [w8,fF,(ii 6),(ii 46),(ii 0),(ss [43]),fF,w0]),
 (.cells [(ii 6),(ii 46),(ii 0),(ss [43]),fF,w0]),
 (.cells [(ii 6),(ii 46),(ii 0),(ss [43]),fF,w0]),
 (.cells [fF,(ii 0),(ii 15)]),
 (.cells [(ii 3),(ii 44),(ii 0),(ss [107]),fF,.nils]),
 (.lin 1),
 (.cells [(ii 8),(ii 51),(ii 0),sE,fF,w1]),
 (.cells [(ii 8),(ii 51),(ii 0),sE,fF,w1]),
 (.cells [fF,(ii 0),(ii 14)]),
 (.cells [(ii 8),(ii 51),(ii 0),sE,fF,w1]),
 (.cells [fF,(ii 0),(ii 14)]),
 (.cells [fF,(ii 0),(ii 12)]),
 (.cells [(ii 12),(ii 1),fF,(ii 0),(ii 0),(.sl 2 [] .lit)]),
 .gone,
 (.cells [fF,(ii 0),(ii 12)]),
 (.cells [(ii 1),(ii 49),(ii 0),sE,fF,.nils]),
 (.lin 1),
 (.cells [(ii 10),(ii 54),(ii 0),sE,fF,w5]),
 (.cells [(ii 10),(ii 54),(ii 0),sE,fF,w5]),
 (.cells [fF,(ii 0),(ii 13)]),
 (.cells [(ii 10),(ii 54),(ii 0),sE,fF,w5]),
 (.cells [fF,(ii 0),(ii 13)]),
 (.cells [fF,(ii 0),(ii 13)]),
 (.cells [(ii 13),(ii 0),fF,(ii 0),(ii 0),(.sl 2 [] .lit)]),
 .gone,
 (.cells [fF,(ii 0),(ii 13)]),
 (.cells [fF,(ii 0),(ii 11)]),
 (.cells [fF,(ii 0),(ii 14)]),
 (.cells [fF,(ii 0),(ii 15)]),
 (.lin 0),
 (.cells [(ss [110]),(ii 40)]),
 w14,
 (.lin 0),
 (.cells [fF,(ii 0),(ii 16)]),
 (.lin 0),
 (.cells [(ss [121]),(ii 111)]),
 (.cells [(.sl 2 [(.agg [(ss [122]),(ii 149)])] .dead),fF,(ii 7),(ii 153),(ii 0),sE,fF,w3]),
 (.cells [(.sl 2 [(.agg [(ss [122]),(ii 149)])] .dead),fF,(ii 7),(ii 153),(ii 0),sE,fF,w3]),
 (.cells [(ii 7),(ii 153),(ii 0),sE,fF,w3]),
 (.cells [(ii 7),(ii 153),(ii 0),sE,fF,w3]),
 (.cells [fF,(ii 0),(ii 24)]),
 (.cells [(ii 3),(ii 156),(ii 0),(ss [99]),fF,.nils]),
 (.lin 2),
 (.cells [(ii 1),(ii 163),(ii 0),sE,fF,.nils]),
 (.cells [(ii 9),(ii 173),(ii 0),sE,fF,w6]),
 (.cells [(ii 9),(ii 173),(ii 0),sE,fF,w6]),
 (.cells [fF,(ii 0),(ii 17)]),
 (.cells [(ii 9),(ii 173),(ii 0),sE,fF,w6]),
 (.cells [fF,(ii 0),(ii 17)]),
 (.cells [fF,(ii 0),(ii 17)]),
 (.cells [(ii 17),(ii 7),fF,(ii 0),(ii 0),(.sl 2 [] .lit)]),
 .gone,
 (.cells [fF,(ii 0),(ii 17)]),
 (.cells [(ii 13),(ii 177),(ii 0),w7,fF,(.sl 6 [(.agg [(ii 1),(ii 183),(ii 3),sE,fF,.nils])] .lit)]),
 (.cells [fF,(ii 0),(ii 19)]),
 (.cells [(ii 13),(ii 177),(ii 0),w7,fF,(.sl 6 [(.agg [(ii 1),(ii 183),(ii 3),sE,fF,.nils])] .lit)]),
 (.cells [w7,(ii 5),w9,w10,.nils,(.sl 8 [(.agg [w8,fF,(ii 6),(ii 46),(ii 0),(ss [43]),fF,w0])] .dead)]),
 (.cells [(.ptr 4 0)]),
 (.cells [w7,(ii 5),w9,w10,.nils,(.sl 8 [(.agg [w8,fF,(ii 6),(ii 46),(ii 0),(ss [43]),fF,w0])] .dead)]),
 (.map [((ss [107]),(ii 18)),((ss [110]),(ii 19))]),
 (.map []),
 (.cells [w7,(ii 5),w9,w10,.nils,(.sl 8 [(.agg [w8,fF,(ii 6),(ii 46),(ii 0),(ss [43]),fF,w0])] .dead),(.map 156),(.map 157),(.sl 2 [] .lit)]),
 w13,
 w14,
 w13,
 (.cells [w8,fF,(ii 6),(ii 46),(ii 0),(ss [43]),fF,w0]),
 (.cells [w8,fF,(ii 6),(ii 46),(ii 0),(ss [43]),fF,w0]),
 (.cells [w8,fF,(ii 6),(ii 46),(ii 0),(ss [43]),fF,w0]),
 (.cells [w8,fF,(ii 6),(ii 46),(ii 0),(ss [43]),fF,w0]),
 (.cells [(ii 6),(ii 46),(ii 0),(ss [43]),fF,w0]),
 (.cells [(ii 6),(ii 46),(ii 0),(ss [43]),fF,w0]),
 (.cells [fF,(ii 0),(ii 23)]),
 (.cells [(ii 3),(ii 44),(ii 0),(ss [107]),fF,.nils]),
 (.lin 1),
 (.cells [(ii 8),(ii 51),(ii 0),sE,fF,w1]),
 (.cells [(ii 8),(ii 51),(ii 0),sE,fF,w1]),
 (.cells [fF,(ii 0),(ii 22)]),
 (.cells [(ii 8),(ii 51),(ii 0),sE,fF,w1]),
 (.cells [fF,(ii 0),(ii 22)]),
 (.cells [fF,(ii 0),(ii 20)]),
 (.cells [(ii 20),(ii 1),fF,(ii 0),(ii 0),(.sl 2 [] .lit)]),
 .gone,
 (.cells [fF,(ii 0),(ii 20)]),
 (.cells [(ii 1),(ii 49),(ii 0),sE,fF,.nils]),
 (.lin 1),
 (.cells [(ii 10),(ii 54),(ii 0),sE,fF,w5]),
 (.cells [(ii 10),(ii 54),(ii 0),sE,fF,w5]),
 (.cells [fF,(ii 0),(ii 21)]),
 (.cells [(ii 10),(ii 54),(ii 0),sE,fF,w5]),
 (.cells [fF,(ii 0),(ii 21)]),
 (.cells [fF,(ii 0),(ii 21)]),
 (.cells [(ii 21),(ii 0),fF,(ii 0),(ii 0),(.sl 2 [] .lit)]),
 (.cells [(ii 6),(ii 1),tT,(ii 0),(ii 0),(.sl 2 [] .lit),(ii 7),(ii 0),fF,(ii 0),(ii 5),(.sl 2 [] .lit),(ii 12),(ii 1),tT,(ii 0),(ii 0),(.sl 2 [] .lit),(ii 13),(ii 0),fF,(ii 0),(ii 11),(.sl 2 [] .lit),(ii 17),(ii 7),fF,(ii 0),(ii 19),(.sl 2 [] .lit),(ii 20),(ii 1),tT,(ii 0),(ii 0),(.sl 2 [] .lit),(ii 21),(ii 0),fF,(ii 0),(ii 19),(.sl 2 [] .lit)]),
 (.cells [fF,(ii 0),(ii 21)]),
 (.cells [fF,(ii 0),(ii 19)]),
 (.cells [fF,(ii 0),(ii 22)]),
 (.cells [fF,(ii 0),(ii 23)]),
 (.lin 0),
 (.cells [(ss [110]),(ii 40)]),
 w14,
 (.lin 0),
 (.cells [fF,(ii 0),(ii 19)]),
 (.cells [fF,(ii 0),(ii 24)]),
 (.lin 0),
 (.cells [(ss [122]),(ii 149)]),
 (.cells [(ss [121]),(ii 91),fF,fF,sE,fF]),
 (.lin 1),
 (.cells [(ss [122]),(ii 99),fF,fF,sE,fF]),
 (.cells [(ii 0),(ii 0)]),
 (.cells [(ii 0),(ii 0)]),
 (.cells [(.ptr 3 0),(.rsl 208 0 25 25 1)]),
 (.cells cs),
 (.cells [(.ptr 3 0),(.rsl 208 0 25 25 1)]),
 (.cells [(ii 6),(ii 1),tT,(ii 0),(ii 0),(.sl 2 [] .lit)]),
 (.cells [(ii 7),(ii 0),fF,(ii 0),(ii 5),(.sl 2 [] .lit)]),
 (.cells [(ii 12),(ii 1),tT,(ii 0),(ii 0),(.sl 2 [] .lit)]),
 (.cells [(ii 13),(ii 0),fF,(ii 0),(ii 11),(.sl 2 [] .lit)]),
 (.cells [(ii 17),(ii 7),fF,(ii 0),(ii 19),(.sl 2 [] .lit)]),
 (.cells [(ii 20),(ii 1),tT,(ii 0),(ii 0),(.sl 2 [] .lit)]),
 (.cells [(ii 21),(ii 0),fF,(ii 0),(ii 19),(.sl 2 [] .lit)]),
 (.lin 0),
 (.cells [(.ptr 3 0),(.rsl 208 0 25 25 1),(.sl 1 [(ii 0),(ii 1),(ii 2),(ii 5),(ii 6),(ii 11),(ii 12),(ii 15),(ii 3),(ii 7),(ii 13),(ii 16),(ii 4),(ii 8),(ii 14),(ii 9),(ii 10)] (.live 217 0))])]
end Go.Proofs
set_option maxRecDepth 1000000
namespace Go.Proofs
open Go Go.Abs
theorem cc139 : CC.P.underlying 139 = some (.slice 93) := by kernel_rfl
theorem cc22 : CC.P.underlying 22 = some (.slice 3) := by kernel_rfl
theorem lst_sl {t e sz : Nat} (h : CC.P.underlying t = some (.slice e)) (l : List AV) (n : Lin) : LstV t sz (.sl sz l n) l := ⟨len_sl h sz l n, fun i v hv => iasV_i hv⟩
theorem lst_nils : LstV 140 2 .nils [] := ⟨by kernel_rfl, fun i v hv => by rw [getF_eq] at hv; simp at hv⟩
theorem lst_none (n : Lin) : LstV 140 2 (.sl 2 [] n) [] := ⟨by cases n <;> kernel_rfl, fun i v hv => by rw [getF_eq] at hv; simp at hv⟩
theorem op_copy {k : Nat} (hk : k = 1) : ∀ l : List Int, l.length = k → ∃ y, applyS [99,111,112,121] l = some y := by
  subst hk
  intro l hl
  match l, hl with
  | [a], _ => exact ⟨_, rfl⟩
theorem op_if {k : Nat} (hk : k = 3) : ∀ l : List Int, l.length = k → ∃ y, applyS [105,102] l = some y := by
  subst hk
  intro l hl
  match l, hl with
  | [a, b, c], _ => exact ⟨_, rfl⟩
theorem op_add {k : Nat} (hk : k = 2) : ∀ l : List Int, l.length = k → ∃ y, applyS [43] l = some y := by
  subst hk
  intro l hl
  match l, hl with
  | [a, b], _ => exact ⟨_, rfl⟩
theorem ek0 : EqK 219 25 eS0 := ⟨lst_sl cc139 _ _, lst_nils, by decide, by decide, List.cons_ne_nil _ _, by kernel_rfl, rfl, rfl, by decide, by decide, by decide, op_copy rfl⟩
theorem ek1 : EqK 219 25 eS1 := ⟨lst_sl cc139 _ _, lst_none _, by decide, by decide, List.cons_ne_nil _ _, by kernel_rfl, rfl, rfl, by decide, by decide, by decide, op_copy rfl⟩
theorem ek2 : EqK 219 25 eS2 := ⟨lst_sl cc139 _ _, lst_none _, by decide, by decide, List.cons_ne_nil _ _, by kernel_rfl, rfl, rfl, by decide, by decide, by decide, op_if rfl⟩
theorem ek3 : EqK 219 25 eS3 := ⟨lst_sl cc139 _ _, lst_none _, by decide, by decide, List.cons_ne_nil _ _, by kernel_rfl, rfl, rfl, by decide, by decide, by decide, op_add rfl⟩
theorem ek4 : EqK 219 25 eS4 := ⟨lst_sl cc139 _ _, lst_none _, by decide, by decide, List.cons_ne_nil _ _, by kernel_rfl, rfl, rfl, by decide, by decide, by decide, op_copy rfl⟩
theorem ek5 : EqK 219 25 eS5 := ⟨lst_sl cc139 _ _, lst_none _, by decide, by decide, List.cons_ne_nil _ _, by kernel_rfl, rfl, rfl, by decide, by decide, by decide, op_copy rfl⟩
theorem ek6 : EqK 219 25 eS6 := ⟨lst_sl cc139 _ _, lst_none _, by decide, by decide, List.cons_ne_nil _ _, by kernel_rfl, rfl, rfl, by decide, by decide, by decide, op_if rfl⟩
theorem ek7 : EqK 219 25 eS7 := ⟨lst_sl cc139 _ _, lst_none _, by decide, by decide, List.cons_ne_nil _ _, by kernel_rfl, rfl, rfl, by decide, by decide, by decide, op_add rfl⟩
theorem ek8 : EqK 219 25 eS8 := ⟨lst_sl cc139 _ _, lst_none _, by decide, by decide, List.cons_ne_nil _ _, by kernel_rfl, rfl, rfl, by decide, by decide, by decide, op_copy rfl⟩
theorem ek9 : EqK 219 25 eS9 := ⟨lst_sl cc139 _ _, lst_none _, by decide, by decide, List.cons_ne_nil _ _, by kernel_rfl, rfl, rfl, by decide, by decide, by decide, op_if rfl⟩
theorem ek10 : EqK 219 25 eS10 := ⟨lst_sl cc139 _ _, lst_none _, by decide, by decide, List.cons_ne_nil _ _, by kernel_rfl, rfl, rfl, by decide, by decide, by decide, op_copy rfl⟩
theorem ek11 : EqK 219 25 eS11 := ⟨lst_sl cc139 _ _, lst_none _, by decide, by decide, List.cons_ne_nil _ _, by kernel_rfl, rfl, rfl, by decide, by decide, by decide, op_copy rfl⟩
theorem ek12 : EqK 219 25 eS12 := ⟨lst_sl cc139 _ _, lst_none _, by decide, by decide, List.cons_ne_nil _ _, by kernel_rfl, rfl, rfl, by decide, by decide, by decide, op_if rfl⟩
theorem ek13 : EqK 219 25 eS13 := ⟨lst_sl cc139 _ _, lst_none _, by decide, by decide, List.cons_ne_nil _ _, by kernel_rfl, rfl, rfl, by decide, by decide, by decide, op_add rfl⟩
theorem ek14 : EqK 219 25 eS14 := ⟨lst_sl cc139 _ _, lst_none _, by decide, by decide, List.cons_ne_nil _ _, by kernel_rfl, rfl, rfl, by decide, by decide, by decide, op_copy rfl⟩
theorem ek15 : EqK 219 25 eS15 := ⟨lst_sl cc139 _ _, lst_none _, by decide, by decide, List.cons_ne_nil _ _, by kernel_rfl, rfl, rfl, by decide, by decide, by decide, op_if rfl⟩
theorem ek16 : EqK 219 25 eS16 := ⟨lst_sl cc139 _ _, lst_none _, by decide, by decide, List.cons_ne_nil _ _, by kernel_rfl, rfl, rfl, by decide, by decide, by decide, op_copy rfl⟩
theorem mk0 : MemK 219 25 mS0 := ⟨lst_none _, by decide, by kernel_rfl, rfl, by decide, by decide, by decide⟩
theorem mk1 : MemK 219 25 mS1 := ⟨lst_none _, by decide, by kernel_rfl, rfl, by decide, by decide, by decide⟩
theorem mk2 : MemK 219 25 mS2 := ⟨lst_none _, by decide, by kernel_rfl, rfl, by decide, by decide, by decide⟩
theorem mk3 : MemK 219 25 mS3 := ⟨lst_none _, by decide, by kernel_rfl, rfl, by decide, by decide, by decide⟩
theorem mk4 : MemK 219 25 mS4 := ⟨lst_none _, by decide, by kernel_rfl, rfl, by decide, by decide, by decide⟩
theorem mk5 : MemK 219 25 mS5 := ⟨lst_none _, by decide, by kernel_rfl, rfl, by decide, by decide, by decide⟩
theorem mk6 : MemK 219 25 mS6 := ⟨lst_none _, by decide, by kernel_rfl, rfl, by decide, by decide, by decide⟩
theorem EqK.mono {L L' n : Nat} {q : EqR} (h : L ≤ L') (k : EqK L n q) : EqK L' n q := { k with low := AV.low_mono h _ k.low }
theorem MemK.mono {L L' n : Nat} {q : MemR} (h : L ≤ L') (k : MemK L n q) : MemK L' n q := { k with low := AV.low_mono h _ k.low }
theorem ekS : ∀ q ∈ eqsS, EqK 219 25 q := by
  intro q hq
  simp only [eqsS, List.mem_cons, List.not_mem_nil, or_false] at hq
  rcases hq with rfl | rfl | rfl | rfl | rfl | rfl | rfl | rfl | rfl | rfl | rfl | rfl | rfl | rfl | rfl | rfl | rfl
  · exact ek0
  · exact ek1
  · exact ek2
  · exact ek3
  · exact ek4
  · exact ek5
  · exact ek6
  · exact ek7
  · exact ek8
  · exact ek9
  · exact ek10
  · exact ek11
  · exact ek12
  · exact ek13
  · exact ek14
  · exact ek15
  · exact ek16
theorem mkS : ∀ q ∈ msS, MemK 219 25 q := by
  intro q hq
  simp only [msS, List.mem_cons, List.not_mem_nil, or_false] at hq
  rcases hq with rfl | rfl | rfl | rfl | rfl | rfl | rfl
  · exact mk0
  · exact mk1
  · exact mk2
  · exact mk3
  · exact mk4
  · exact mk5
  · exact mk6
theorem hS_len (cs : List AV) : (hS cs).length = 219 := by kernel_rfl
theorem hS_N (cs : List AV) : getF (hS cs) 208 = some (.cells cs) := by kernel_rfl
theorem hS_set (cs cs' : List AV) : setF (hS cs) 208 (.cells cs') = hS cs' := by kernel_rfl
def mcS : List AV := msS.flatMap MemR.l
theorem rowS : RowM mcS msS := by
  intro i m h
  match i, h with
  | 0, h => simp only [msS, List.getElem?_cons_succ, List.getElem?_cons_zero, Option.some.injEq] at h; subst h; exact ⟨by decide +kernel, by kernel_rfl⟩
  | 1, h => simp only [msS, List.getElem?_cons_succ, List.getElem?_cons_zero, Option.some.injEq] at h; subst h; exact ⟨by decide +kernel, by kernel_rfl⟩
  | 2, h => simp only [msS, List.getElem?_cons_succ, List.getElem?_cons_zero, Option.some.injEq] at h; subst h; exact ⟨by decide +kernel, by kernel_rfl⟩
  | 3, h => simp only [msS, List.getElem?_cons_succ, List.getElem?_cons_zero, Option.some.injEq] at h; subst h; exact ⟨by decide +kernel, by kernel_rfl⟩
  | 4, h => simp only [msS, List.getElem?_cons_succ, List.getElem?_cons_zero, Option.some.injEq] at h; subst h; exact ⟨by decide +kernel, by kernel_rfl⟩
  | 5, h => simp only [msS, List.getElem?_cons_succ, List.getElem?_cons_zero, Option.some.injEq] at h; subst h; exact ⟨by decide +kernel, by kernel_rfl⟩
  | 6, h => simp only [msS, List.getElem?_cons_succ, List.getElem?_cons_zero, Option.some.injEq] at h; subst h; exact ⟨by decide +kernel, by kernel_rfl⟩
  | i + 7, h => simp [msS] at h
theorem unitS (cs : List AV) (G : Heap) : UnitH (hS cs ++ G) 218 3 208 25 [0] [2, 3] ordS eqsS msS where
  hs := ⟨.sl 1 (ordS.map natV) (.live 217 0), getF_old (show getF (hS cs) 218 = _ by kernel_rfl) G, lst_sl cc22 _ _⟩
  hu := ⟨_, .sl 1 ([0].map natV) (.live 9 0), .sl 1 ([2, 3].map natV) (.live 203 1), .sl 4 (eqsS.map EqR.v) (.live 20 16), 189, mcS, getF_old (show getF (hS cs) 3 = some (.cells [.str [102], .int .i64 71, .int .i64 25, .sl 1 ([0].map natV) (.live 9 0), .sl 1 ([2, 3].map natV) (.live 203 1), .sl 4 (eqsS.map EqR.v) (.live 20 16), .rsl 189 0 7 7 6, .nils, .nils, .int .i64 31]) by kernel_rfl) G,
    rfl, lst_sl cc22 _ _, rfl, lst_sl cc22 _ _, rfl, fun i q h => iasV_i (v := q.v) (by rw [getF_eq, List.getElem?_map, h]; rfl), rfl, getF_old (show getF (hS cs) 189 = _ by kernel_rfl) G, by decide, rowS⟩
  ne := ⟨by decide, by decide⟩
  eq := fun q hq => (ekS q hq).mono (by rw [List.length_append, hS_len]; omega)
  mem := fun q hq => (mkS q hq).mono (by rw [List.length_append, hS_len]; omega)
  ino := by decide
  outo := by decide
  ordo := by decide
  sm := by decide

/-- the places: the delays, and what else stands there, which doesn't count -/
def csS (j : Nat → Int) (f1 p1 f2 p2 b f3 p3 : Int) : List AV := [.int .i64 (j 0), .int .i64 (j 1), .int .i64 (j 2), .int .i64 (j 3), .int .i64 (j 4), .int .i64 (j 5), .int .i64 f1, .int .i64 p1, .int .i64 (j 8), .int .i64 (j 9), .int .i64 (j 10), .int .i64 (j 11), .int .i64 f2, .int .i64 p2, .int .i64 (j 14), .int .i64 (j 15), .int .i64 (j 16), .int .i64 b, .int .i64 (j 18), .int .i64 (j 19), .int .i64 f3, .int .i64 p3, .int .i64 (j 22), .int .i64 (j 23), .int .i64 (j 24)]
theorem regS (j : Nat → Int) (f1 p1 f2 p2 b f3 p3 : Int) : RegH (csS j f1 p1 f2 p2 b f3 p3) 25 := by
  refine ⟨rfl, fun v hv => ?_⟩
  match v, hv with
  | 0, _ => exact ⟨_, rfl⟩
  | 1, _ => exact ⟨_, rfl⟩
  | 2, _ => exact ⟨_, rfl⟩
  | 3, _ => exact ⟨_, rfl⟩
  | 4, _ => exact ⟨_, rfl⟩
  | 5, _ => exact ⟨_, rfl⟩
  | 6, _ => exact ⟨_, rfl⟩
  | 7, _ => exact ⟨_, rfl⟩
  | 8, _ => exact ⟨_, rfl⟩
  | 9, _ => exact ⟨_, rfl⟩
  | 10, _ => exact ⟨_, rfl⟩
  | 11, _ => exact ⟨_, rfl⟩
  | 12, _ => exact ⟨_, rfl⟩
  | 13, _ => exact ⟨_, rfl⟩
  | 14, _ => exact ⟨_, rfl⟩
  | 15, _ => exact ⟨_, rfl⟩
  | 16, _ => exact ⟨_, rfl⟩
  | 17, _ => exact ⟨_, rfl⟩
  | 18, _ => exact ⟨_, rfl⟩
  | 19, _ => exact ⟨_, rfl⟩
  | 20, _ => exact ⟨_, rfl⟩
  | 21, _ => exact ⟨_, rfl⟩
  | 22, _ => exact ⟨_, rfl⟩
  | 23, _ => exact ⟨_, rfl⟩
  | 24, _ => exact ⟨_, rfl⟩
  | v + 25, h => exact absurd h (by omega)
noncomputable def outS (t : Int) (cs : List AV) (k : Nat) : Int := numAt (midT [0] ordS eqsS [t] cs) k
noncomputable def nextS (t : Int) (cs : List AV) : List AV := keepC (midT [0] ordS eqsS [t] cs) msS 7
noncomputable def jS (t : Int) (cs : List AV) (k : Nat) : Int := numAt (nextS t cs) k
theorem s1t (j : Nat → Int) : nextS 1 (csS j 1 0 1 0 7 1 0) = csS (jS 1 (csS j 1 0 1 0 7 1 0)) 0 1 0 2 3 0 3 := by kernel_rfl
theorem s1f (j : Nat → Int) : nextS 0 (csS j 1 0 1 0 7 1 0) = csS (jS 0 (csS j 1 0 1 0 7 1 0)) 0 1 0 2 3 0 3 := by kernel_rfl
theorem s2t (j : Nat → Int) (a b c d : Int) : nextS 1 (csS j 0 a 0 b d 0 c) = csS (jS 1 (csS j 0 a 0 b d 0 c)) 0 (addF 1 a) 0 (addF 2 b) (addF 3 c) 0 (addF 3 c) := by kernel_rfl
theorem s2f (j : Nat → Int) (a b c d : Int) : nextS 0 (csS j 0 a 0 b d 0 c) = csS (jS 0 (csS j 0 a 0 b d 0 c)) 0 (addF 1 a) 0 (addF 2 b) (addF 3 c) 0 (addF 3 c) := by kernel_rfl
theorem o1t (j : Nat → Int) : outS 1 (csS j 1 0 1 0 7 1 0) 2 = 1 ∧ outS 1 (csS j 1 0 1 0 7 1 0) 3 = 0 := ⟨by kernel_rfl, by kernel_rfl⟩
theorem o1f (j : Nat → Int) : outS 0 (csS j 1 0 1 0 7 1 0) 2 = 2 ∧ outS 0 (csS j 1 0 1 0 7 1 0) 3 = 7 := ⟨by kernel_rfl, by kernel_rfl⟩
theorem o2t (j : Nat → Int) (a b c d : Int) : outS 1 (csS j 0 a 0 b d 0 c) 2 = addF 1 a ∧ outS 1 (csS j 0 a 0 b d 0 c) 3 = 0 := ⟨by kernel_rfl, by kernel_rfl⟩
theorem o2f (j : Nat → Int) (a b c d : Int) : outS 0 (csS j 0 a 0 b d 0 c) 2 = addF 2 b ∧ outS 0 (csS j 0 a 0 b d 0 c) 3 = d := ⟨by kernel_rfl, by kernel_rfl⟩

noncomputable section
def recS : RecT := callK CC (memoL m_S) (tget tab) kPar 3000
def nodesS : AV := match v_parseS with
  | .tuple (x :: _) => x
  | _ => .top
end
theorem madeS : recS 15 [nodesS, .str [102]] [.cells [.int .i64 0, .int .i64 0]] = some (.ret (.tuple [.ptr 218 0, .bool true]) (hS (csS (fun _ => 0) 1 0 1 0 7 1 0)) 1) := by kernel_rfl
end Go.Proofs
set_option maxRecDepth 100000
namespace Go.Proofs
open Go Go.Abs

theorem bslm2 (a b : Int) (L : Nat) : bslmV CC 32 2 [(0, .int .i64 a), (1, .int .i64 b)] L = some (.cells [.int .i64 a, .int .i64 b], fun r => .rsl r 0 2 2 1) := by kernel_rfl
theorem bslm1 (a : Int) (L : Nat) : bslmV CC 32 1 [(0, .int .i64 a)] L = some (.cells [.int .i64 a], fun r => .rsl r 0 1 1 1) := by kernel_rfl
theorem mul_n {a b : Nat} (h : a * b ≤ natMax) : binV CC .mul 2 true (.int .i64 (a : Int)) (.int .i64 (b : Int)) = some (.int .i64 ((a * b : Nat) : Int)) := by
  show binOpAV CC .mul 2 (.int .i64 (a : Int)) (.int .i64 (b : Int)) = _
  simp only [binOpAV, intOpAV, if_true]
  have : IntKind.wrap .i64 ((a * b : Nat) : Int) = ((a * b : Nat) : Int) := wrap_nat h
  rw [← Int.natCast_mul, this]

theorem same_r {M : Memo} (hM : ∀ a, M 16 a = none) (x y : Int) (la : Lin) {H : Heap} {w : Nat} (hw : getF H w = some (.cells [.int .i64 x, .int .i64 y])) :
    orc CC M 16 [.sl 1 [.int .i64 x, .int .i64 y] la, .rsl w 0 2 2 1] H = some (.ret (.int .i64 0) H (lenF H)) := by
  refine begin_ (z := z16) (hM _) (by kernel_rfl) rfl ?_
  have e0 : (envOf [.sl 1 [.int .i64 x, .int .i64 y] la, .rsl w 0 2 2 1] 0 env0).a.a.a = .sl 1 [.int .i64 x, .int .i64 y] la := rfl
  have e1 : (envOf [.sl 1 [.int .i64 x, .int .i64 y] la, .rsl w 0 2 2 1] 0 env0).a.a.b = .rsl w 0 2 2 1 := rfl
  generalize envOf [.sl 1 [.int .i64 x, .int .i64 y] la, .rsl w 0 2 2 1] 0 env0 = R at e0 e1
  have i0 : ∀ l, iasV 1 (.sl 1 [.int .i64 x, .int .i64 y] l) (.int .i64 0) = some (.iptr [.int .i64 x]) := fun _ => rfl
  have i1 : ∀ l, iasV 1 (.sl 1 [.int .i64 x, .int .i64 y] l) (.int .i64 1) = some (.iptr [.int .i64 y]) := fun _ => rfl
  have j0 : iasV 1 (.rsl w 0 2 2 1) (.int .i64 0) = some (.ptr w 0) := ias_r (N := w) (n := 2) (v := 0) (by decide)
  have j1 : iasV 1 (.rsl w 0 2 2 1) (.int .i64 1) = some (.ptr w 1) := ias_r (N := w) (n := 2) (v := 1) (by decide)
  have g0 : getF [AV.int .i64 x, AV.int .i64 y] 0 = some (.int .i64 x) := rfl
  have g1 : getF [AV.int .i64 x, AV.int .i64 y] 1 = some (.int .i64 y) := rfl
  have a0 : addF 0 1 = 1 := by decide
  have a1 : addF 1 1 = 2 := by decide
  have l2 : ∀ l, lenV CC 32 (.sl 1 [.int .i64 x, .int .i64 y] l) = some (.int .i64 2) := fun l => by
    have : CC.P.underlying 32 = some (.slice 2) := by kernel_rfl
    rw [lenV_eq]; simp [lenAV, this]
  have l3 : lenV CC 32 (.rsl w 0 2 2 1) = some (.int .i64 2) := len_rsl w 2
  simp only [z16, q16_0, q16_1, q16_2, q16_3, q16_4, q16_5, q16_6, q16_7, q16_8, q16_9, q16_10, SIM, ST0, e0, e1, i0, i1, j0, j1, hw, g0, g1, a0, a1, l2, l3, lp0, lp1, show ∀ (b : CZ) (r : RG) (ds : Dfs) (s : St), loopN b 99998 r ds s = seqK (loopN b 99997) (b r ds s) from fun _ _ _ _ => rfl, Int.reduceLT, Nat.reduceAdd, Nat.reduceLeDiff]

/-- truths that are handed over -/
def rowB (l : Option (List Bool)) : AV := match l with
  | none => .nils
  | some l => .sl 1 (l.map (.bool ·)) .frz
def lstB : Option (List Bool) → List Bool
  | none => []
  | some l => l
theorem len_rowB (l : Option (List Bool)) : lenV CC 42 (rowB l) = some (.int .i64 ((lstB l).length : Int)) := by
  have : CC.P.underlying 42 = some (.slice 4) := by kernel_rfl
  cases l <;> (rw [lenV_eq]; simp [rowB, lstB, lenAV, this])
theorem ias_rowB {l : Option (List Bool)} {i : Nat} {b : Bool} (h : (lstB l)[i]? = some b) : iasV 1 (rowB l) (.int .i64 (i : Int)) = some (.iptr [.bool b]) := by
  cases l with
  | none => simp [lstB] at h
  | some l =>
    have : getF (l.map (AV.bool ·)) i = some (.bool b) := by rw [getF_eq, List.getElem?_map]; simp only [lstB] at h; rw [h]; rfl
    exact iasV_i this

/-- the places at an instant -/
def stS (j : Nat → Int) : Nat → List AV
  | 0 => csS j 1 0 1 0 7 1 0
  | i + 1 => csS j 0 ((i + 1 : Nat) : Int) 0 ((2 * (i + 1) : Nat) : Int) ((3 * (i + 1) : Nat) : Int) 0 ((3 * (i + 1) : Nat) : Int)
def zS : Nat → Int
  | 0 => 7
  | i + 1 => ((3 * (i + 1) : Nat) : Int)
theorem add_c (c i : Nat) (hi : i < 1000) (hc : c < 10) : addF (c : Int) ((c * i : Nat) : Int) = ((c * (i + 1) : Nat) : Int) := by
  have h1 : c * i ≤ 10 * 1000 := Nat.mul_le_mul (by omega) (by omega)
  rw [addF_i c (c * i) (by unfold natMax; omega), Nat.mul_succ, Nat.add_comm]
theorem nxtT (j : Nat → Int) (i : Nat) (hi : i < 999) : ∃ j', nextS 1 (stS j i) = stS j' (i + 1) ∧ outS 1 (stS j i) 2 = ((i + 1 : Nat) : Int) ∧ outS 1 (stS j i) 3 = 0 := by
  cases i with
  | zero => exact ⟨_, s1t j, (o1t j).1, (o1t j).2⟩
  | succ i =>
    have h1 := add_c 1 (i + 1) (by omega) (by omega)
    have h2 := add_c 2 (i + 1) (by omega) (by omega)
    have h3 := add_c 3 (i + 1) (by omega) (by omega)
    rw [Nat.one_mul, Nat.one_mul] at h1
    refine ⟨jS 1 (stS j (i + 1)), (s2t j _ _ _ _).trans ?_, (o2t j _ _ _ _).1.trans h1, (o2t j _ _ _ _).2⟩
    rw [show addF 1 ((i + 1 : Nat) : Int) = _ from h1, show addF 2 ((2 * (i + 1) : Nat) : Int) = _ from h2, show addF 3 ((3 * (i + 1) : Nat) : Int) = _ from h3]
    rfl
theorem nxtF (j : Nat → Int) (i : Nat) (hi : i < 999) : ∃ j', nextS 0 (stS j i) = stS j' (i + 1) ∧ outS 0 (stS j i) 2 = ((2 * (i + 1) : Nat) : Int) ∧ outS 0 (stS j i) 3 = zS i := by
  cases i with
  | zero => exact ⟨_, s1f j, (o1f j).1, (o1f j).2⟩
  | succ i =>
    have h1 := add_c 1 (i + 1) (by omega) (by omega)
    have h2 := add_c 2 (i + 1) (by omega) (by omega)
    have h3 := add_c 3 (i + 1) (by omega) (by omega)
    rw [Nat.one_mul, Nat.one_mul] at h1
    refine ⟨jS 0 (stS j (i + 1)), (s2f j _ _ _ _).trans ?_, (o2f j _ _ _ _).1.trans h2, (o2f j _ _ _ _).2⟩
    rw [show addF 1 ((i + 1 : Nat) : Int) = _ from h1, show addF 2 ((2 * (i + 1) : Nat) : Int) = _ from h2, show addF 3 ((3 * (i + 1) : Nat) : Int) = _ from h3]
    rfl
theorem regI (j : Nat → Int) (i : Nat) : RegH (stS j i) 25 := by
  cases i <;> exact regS _ _ _ _ _ _ _ _

theorem stepG {M : Memo} (h17 : ∀ a, M 17 a = none) (hM : SoloM M) (cs : List AV) (hr : RegH cs 25) (G : Heap) {t : Int} {pi : Nat} (hpi : getF (hS cs ++ G) pi = some (.cells [.int .i64 t])) (hp : 219 ≤ pi) :
    orc CC M 17 [.ptr 218 0, .rsl pi 0 1 1 1] (hS cs ++ G) = some (.ret (.sl 1 [.int .i64 (outS t cs 2), .int .i64 (outS t cs 3)] .dead) (hS (nextS t cs) ++ G) (lenF (hS cs ++ G))) := by
  have := step_ok h17 hM (unitS cs G) (getF_old (hS_N cs) G) hr (by decide) (xs := [t]) hpi (by omega) (by simp)
  rw [setF_old (hS_N cs), hS_set] at this
  exact this
end Go.Proofs
set_option maxRecDepth 100000
namespace Go.Proofs
open Go Go.Abs

/-- a step with what the law lays behind, and what is compared -/
theorem seen {M : Memo} (h16 : ∀ a, M 16 a = none) (h17 : ∀ a, M 17 a = none) (hM : SoloM M) {cs cs' : List AV} (hr : RegH cs 25) (G K : Heap) {t y z : Int} {k w : Nat} (hn : nextS t cs = cs') (hy : outS t cs 2 = y) (hz : outS t cs 3 = z)
    (hk : getF K k = some (.cells [.int .i64 t])) (hw : getF K w = some (.cells [.int .i64 y, .int .i64 z])) :
    orc CC M 17 [.ptr 218 0, .rsl (lenF (hS cs ++ G) + k) 0 1 1 1] (hS cs ++ G ++ K) = some (.ret (.sl 1 [.int .i64 y, .int .i64 z] .dead) (hS cs' ++ G ++ K) (lenF (hS cs ++ G) + lenF K)) ∧
    orc CC M 16 [.sl 1 [.int .i64 y, .int .i64 z] .dead, .rsl (lenF (hS cs ++ G) + w) 0 2 2 1] (hS cs' ++ G ++ K) = some (.ret (.int .i64 0) (hS cs' ++ G ++ K) (lenF (hS cs ++ G) + lenF K)) := by
  have hl : lenF (hS cs' ++ G) = lenF (hS cs ++ G) := by rw [lenF_eq, lenF_eq, List.length_append, List.length_append, hS_len, hS_len]
  have hl2 : ∀ H : Heap, lenF (H ++ K) = lenF H + lenF K := fun H => by rw [lenF_eq, lenF_eq, lenF_eq, List.length_append]
  refine ⟨?_, ?_⟩
  · have := stepG h17 hM cs hr (G ++ K) (t := t) (pi := lenF (hS cs ++ G) + k) (by rw [← List.append_assoc, getF_app]; exact hk) (by rw [lenF_eq, List.length_append, hS_len]; omega)
    rw [← List.append_assoc, ← List.append_assoc, hn, hy, hz, hl2] at this
    exact this
  · have := same_r (M := M) h16 y z .dead (H := hS cs' ++ G ++ K) (w := lenF (hS cs ++ G) + w) (by rw [← hl, getF_app]; exact hw)
    rw [hl2, hl] at this
    exact this

theorem setF_two (a b v : AV) : setF [a, b] 1 v = [a, v] := rfl

theorem std_loop {M : Memo} (h16 : ∀ a, M 16 a = none) (h17 : ∀ a, M 17 a = none) (hM : SoloM M) (l : Option (List Bool)) : ∀ (d i : Nat), d + i = 40 → i ≤ (lstB l).length → ∀ (fu : Nat), d < fu → ∀ (j : Nat → Int) (G : Heap) (r : RG),
    (r.a.a.a = rowB l ∧ r.a.a.f = .ptr 218 0 ∧ r.a.a.h = .int .i64 (i : Int)) →
    ∃ r' H', loopN (q6_18 (orc CC M)) fu r [] ⟨hS (stS j i) ++ G, 0⟩ = some (.exit 0, r', [], ⟨H', 0⟩) := by
  intro d
  induction d with
  | zero =>
    intro i hi hil fu hfu j G r ⟨h0, h5, h7⟩
    obtain ⟨fu', rfl⟩ : ∃ f, fu = f + 1 := ⟨fu - 1, by omega⟩
    have hi40 : i = 40 := by omega
    have hc2 : decide ((i : Int) < 40) = false := by subst hi40; rfl
    cases hc1 : decide ((i : Int) < ((lstB l).length : Int)) <;>
    · simp only [loopN, q6_18, q6_8, SIM, ST0, ST1, h0, h7, len_rowB, hc1, hc2]
      exact ⟨_, _, rfl⟩
  | succ d ih =>
    intro i hi hil fu hfu j G r ⟨h0, h5, h7⟩
    obtain ⟨fu', rfl⟩ : ∃ f, fu = f + 1 := ⟨fu - 1, by omega⟩
    by_cases hlt : i < (lstB l).length
    · have hc1 : decide ((i : Int) < ((lstB l).length : Int)) = true := by simp; omega
      have hc2 : decide ((i : Int) < 40) = true := by simp; omega
      have ha : addF (i : Int) 1 = ((i + 1 : Nat) : Int) := addF_i i 1 (by unfold natMax; omega)
      have hs : subF ((i + 1 : Nat) : Int) 1 = (i : Int) := subF_add i 1 (by unfold natMax; omega)
      have hm2 : binV CC .mul 2 true (.int .i64 2) (.int .i64 ((i + 1 : Nat) : Int)) = some (.int .i64 ((2 * (i + 1) : Nat) : Int)) := mul_n (a := 2) (by unfold natMax; omega)
      have hm3 : binV CC .mul 2 true (.int .i64 3) (.int .i64 (i : Int)) = some (.int .i64 ((3 * i : Nat) : Int)) := mul_n (a := 3) (by unfold natMax; omega)
      have hg : (lstB l)[i]? = some (lstB l)[i] := by simp [hlt]
      have hias := ias_rowB hg
      have hr := regI j i
      have hz3 : i ≠ 0 → zS i = ((3 * i : Nat) : Int) := fun h => by cases i with
        | zero => exact absurd rfl h
        | succ i => rfl
      cases hb : (lstB l)[i] with
      | true =>
        rw [hb] at hias
        obtain ⟨j', hn, hy, hz⟩ := nxtT j i (by omega)
        by_cases hi0 : i = 0
        · have hc3 : decide ((i : Int) = 0) = true := by simp; omega
          have hz' := hz
          obtain ⟨st17, st16⟩ := seen (M := M) h16 h17 hM hr G [.cells [.int .i64 ((2 * (i + 1) : Nat) : Int), .int .i64 7], .cells [.int .i64 ((i + 1 : Nat) : Int), .int .i64 0], .cells [.int .i64 1]] (k := 2) (w := 1) hn hy hz' rfl rfl
          have key : ∀ r, _ → _ := fun r (hr : r.a.a.a = rowB l ∧ r.a.a.f = .ptr 218 0 ∧ r.a.a.h = .int .i64 ((i + 1 : Nat) : Int)) => ih (i + 1) (by omega) (by omega) fu' (by omega) j' (G ++ [.cells [.int .i64 ((2 * (i + 1) : Nat) : Int), .int .i64 7], .cells [.int .i64 ((i + 1 : Nat) : Int), .int .i64 0], .cells [.int .i64 1]]) r hr
          rw [← List.append_assoc] at key
          simp only [show ∀ a b c : AObj, lenF [a, b, c] = 3 from fun _ _ _ => rfl, show ∀ a b : AObj, lenF [a, b] = 2 from fun _ _ => rfl, Nat.add_zero] at st17 st16
          generalize hS (stS j i) ++ G = Hc at *
          generalize hS (stS j' (i + 1)) ++ G = Hn at *
          have hir : iasV 1 (.rsl (lenF Hc) 0 2 2 1) (.int .i64 1) = some (.ptr (lenF Hc) 1) := ias_r (N := lenF Hc) (n := 2) (v := 1) (by decide)
          simp only [loopN, q6_18, q6_8, q6_9, q6_10, q6_11, q6_12, q6_13, q6_14, q6_15, q6_17, SIM, ST0, ST1, h0, h5, h7, len_rowB, hc1, hc2, hc3, hias, ha, hs, hm2, hm3, bslm2, bslm1, hir, setF_two, st17, st16, Nat.zero_min, Nat.reduceAdd, Nat.reduceLeDiff]
          exact key _ ⟨by first | rfl | exact h0, by first | rfl | exact h5, rfl⟩
        · have hc3 : decide ((i : Int) = 0) = false := by simp; omega
          have hz' := hz
          obtain ⟨st17, st16⟩ := seen (M := M) h16 h17 hM hr G [.cells [.int .i64 ((2 * (i + 1) : Nat) : Int), .int .i64 ((3 * i : Nat) : Int)], .cells [.int .i64 ((i + 1 : Nat) : Int), .int .i64 0], .cells [.int .i64 1]] (k := 2) (w := 1) hn hy hz' rfl rfl
          have key : ∀ r, _ → _ := fun r (hr : r.a.a.a = rowB l ∧ r.a.a.f = .ptr 218 0 ∧ r.a.a.h = .int .i64 ((i + 1 : Nat) : Int)) => ih (i + 1) (by omega) (by omega) fu' (by omega) j' (G ++ [.cells [.int .i64 ((2 * (i + 1) : Nat) : Int), .int .i64 ((3 * i : Nat) : Int)], .cells [.int .i64 ((i + 1 : Nat) : Int), .int .i64 0], .cells [.int .i64 1]]) r hr
          rw [← List.append_assoc] at key
          simp only [show ∀ a b c : AObj, lenF [a, b, c] = 3 from fun _ _ _ => rfl, show ∀ a b : AObj, lenF [a, b] = 2 from fun _ _ => rfl, Nat.add_zero] at st17 st16
          generalize hS (stS j i) ++ G = Hc at *
          generalize hS (stS j' (i + 1)) ++ G = Hn at *
          have hir : iasV 1 (.rsl (lenF Hc) 0 2 2 1) (.int .i64 1) = some (.ptr (lenF Hc) 1) := ias_r (N := lenF Hc) (n := 2) (v := 1) (by decide)
          simp only [loopN, q6_18, q6_8, q6_9, q6_10, q6_11, q6_12, q6_13, q6_14, q6_15, q6_17, SIM, ST0, ST1, h0, h5, h7, len_rowB, hc1, hc2, hc3, hias, ha, hs, hm2, hm3, bslm2, bslm1, hir, setF_two, st17, st16, Nat.zero_min, Nat.reduceAdd, Nat.reduceLeDiff]
          exact key _ ⟨by first | rfl | exact h0, by first | rfl | exact h5, rfl⟩
      | false =>
        rw [hb] at hias
        obtain ⟨j', hn, hy, hz⟩ := nxtF j i (by omega)
        by_cases hi0 : i = 0
        · have hc3 : decide ((i : Int) = 0) = true := by simp; omega
          have hz' : outS 0 (stS j i) 3 = 7 := hz.trans (by subst hi0; rfl)
          obtain ⟨st17, st16⟩ := seen (M := M) h16 h17 hM hr G [.cells [.int .i64 ((2 * (i + 1) : Nat) : Int), .int .i64 7], .cells [.int .i64 0]] (k := 1) (w := 0) hn hy hz' rfl rfl
          have key : ∀ r, _ → _ := fun r (hr : r.a.a.a = rowB l ∧ r.a.a.f = .ptr 218 0 ∧ r.a.a.h = .int .i64 ((i + 1 : Nat) : Int)) => ih (i + 1) (by omega) (by omega) fu' (by omega) j' (G ++ [.cells [.int .i64 ((2 * (i + 1) : Nat) : Int), .int .i64 7], .cells [.int .i64 0]]) r hr
          rw [← List.append_assoc] at key
          simp only [show ∀ a b c : AObj, lenF [a, b, c] = 3 from fun _ _ _ => rfl, show ∀ a b : AObj, lenF [a, b] = 2 from fun _ _ => rfl, Nat.add_zero] at st17 st16
          generalize hS (stS j i) ++ G = Hc at *
          generalize hS (stS j' (i + 1)) ++ G = Hn at *
          have hir : iasV 1 (.rsl (lenF Hc) 0 2 2 1) (.int .i64 1) = some (.ptr (lenF Hc) 1) := ias_r (N := lenF Hc) (n := 2) (v := 1) (by decide)
          simp only [loopN, q6_18, q6_8, q6_9, q6_10, q6_11, q6_12, q6_13, q6_14, q6_15, q6_17, SIM, ST0, ST1, h0, h5, h7, len_rowB, hc1, hc2, hc3, hias, ha, hs, hm2, hm3, bslm2, bslm1, hir, setF_two, st17, st16, Nat.zero_min, Nat.reduceAdd, Nat.reduceLeDiff]
          exact key _ ⟨by first | rfl | exact h0, by first | rfl | exact h5, rfl⟩
        · have hc3 : decide ((i : Int) = 0) = false := by simp; omega
          have hz' : outS 0 (stS j i) 3 = ((3 * i : Nat) : Int) := hz.trans (hz3 hi0)
          obtain ⟨st17, st16⟩ := seen (M := M) h16 h17 hM hr G [.cells [.int .i64 ((2 * (i + 1) : Nat) : Int), .int .i64 ((3 * i : Nat) : Int)], .cells [.int .i64 0]] (k := 1) (w := 0) hn hy hz' rfl rfl
          have key : ∀ r, _ → _ := fun r (hr : r.a.a.a = rowB l ∧ r.a.a.f = .ptr 218 0 ∧ r.a.a.h = .int .i64 ((i + 1 : Nat) : Int)) => ih (i + 1) (by omega) (by omega) fu' (by omega) j' (G ++ [.cells [.int .i64 ((2 * (i + 1) : Nat) : Int), .int .i64 ((3 * i : Nat) : Int)], .cells [.int .i64 0]]) r hr
          rw [← List.append_assoc] at key
          simp only [show ∀ a b c : AObj, lenF [a, b, c] = 3 from fun _ _ _ => rfl, show ∀ a b : AObj, lenF [a, b] = 2 from fun _ _ => rfl, Nat.add_zero] at st17 st16
          generalize hS (stS j i) ++ G = Hc at *
          generalize hS (stS j' (i + 1)) ++ G = Hn at *
          have hir : iasV 1 (.rsl (lenF Hc) 0 2 2 1) (.int .i64 1) = some (.ptr (lenF Hc) 1) := ias_r (N := lenF Hc) (n := 2) (v := 1) (by decide)
          simp only [loopN, q6_18, q6_8, q6_9, q6_10, q6_11, q6_12, q6_13, q6_14, q6_15, q6_17, SIM, ST0, ST1, h0, h5, h7, len_rowB, hc1, hc2, hc3, hias, ha, hs, hm2, hm3, bslm2, bslm1, hir, setF_two, st17, st16, Nat.zero_min, Nat.reduceAdd, Nat.reduceLeDiff]
          exact key _ ⟨by first | rfl | exact h0, by first | rfl | exact h5, rfl⟩
    · have hc1 : decide ((i : Int) < ((lstB l).length : Int)) = false := by simp; omega
      simp only [loopN, q6_18, q6_8, SIM, ST0, ST1, h0, h7, len_rowB, hc1]
      exact ⟨_, _, rfl⟩

theorem parS : ParKM (memoL m_S) := { lx := { m72 := fun _ => rfl, m73 := fun _ => rfl, m104 := fun _ => rfl, m105 := fun _ => rfl, m106 := fun _ => rfl, m107 := fun _ => rfl, m108 := fun _ => rfl, m109 := fun _ => rfl, m110 := fun _ => rfl, m140 := fun _ => rfl, m141 := fun _ => rfl, m142 := fun _ => rfl, m143 := fun _ => rfl, m144 := fun _ => rfl, w := rfl, wl := by decide, s := rfl, sl := by decide }, m30 := fun _ => rfl, m53 := fun _ => rfl, m74 := fun _ => rfl, m49 := fun _ => rfl, m50 := fun _ => rfl, par := parM_of (by decide) }
theorem soloM : SoloM (memoL m_S) := { h34 := fun _ => rfl, h35 := fun _ => rfl, h36 := fun _ => rfl, h37 := fun _ => rfl, h61 := fun _ => rfl, h62 := fun _ => rfl }
theorem hp14S : memoL m_S 14 [.str textS] = some v_parseS := by kernel_rfl
theorem hp13S : memoL m_S 13 [] = some (.bool true) := by kernel_rfl
theorem exS0 : extV v_parseS 0 = some nodesS := by kernel_rfl
theorem exS1 : extV v_parseS 1 = some (.agg [.int .i64 0, .int .i64 0]) := by kernel_rfl

theorem law6 (l : Option (List Bool)) : orc CC (memoL m_S) 6 [rowB l] [] = some (.ret (.bool true) [] 0) := by
  have hle : RLe recS (orc CC (memoL m_S)) := callK_ok cc_mask tabT (kPar_ok parS) 3000
  refine begin_ (z := z6) rfl (by kernel_rfl) rfl ?_
  have e0 : (envOf [rowB l] 0 env0).a.a.a = rowB l := rfl
  generalize envOf [rowB l] 0 env0 = R at e0
  have h14 : ∀ h, orc CC (memoL m_S) 14 [.str [110,111,100,101,32,99,111,117,110,116,40,107,58,32,105,110,116,41,32,114,101,116,117,114,110,115,32,40,110,58,32,105,110,116,41,32,108,101,116,32,110,32,61,32,107,32,43,32,40,48,32,45,62,32,112,114,101,32,110,41,59,32,116,101,108,32,110,111,100,101,32,102,40,99,58,32,98,111,111,108,41,32,114,101,116,117,114,110,115,32,40,121,58,32,105,110,116,44,32,122,58,32,105,110,116,41,32,108,101,116,32,121,32,61,32,105,102,32,99,32,116,104,101,110,32,99,111,117,110,116,40,49,41,32,101,108,115,101,32,99,111,117,110,116,40,50,41,59,32,122,32,61,32,105,102,32,99,32,116,104,101,110,32,48,32,101,108,115,101,32,40,55,32,102,98,121,32,99,111,117,110,116,40,51,41,41,59,32,116,101,108]] h = _ := fun h => orc_memo (C := CC) (h := h) hp14S
  have h13 := fun h => orc_memo (C := CC) (h := h) hp13S
  have hm : orc CC (memoL m_S) 15 [nodesS, .str [102]] [.cells [.int .i64 0, .int .i64 0]] = some (.ret (.tuple [.ptr 218 0, .bool true]) (hS (stS (fun _ => 0) 0)) 1) := hle _ _ _ _ madeS
  obtain ⟨f, hf⟩ := sk (P := fun r => r.a.a.a = rowB l ∧ r.a.a.f = .ptr 218 0 ∧ r.a.a.h = .int .i64 ((0 : Nat) : Int)) fun r hr => std_loop (M := memoL m_S) (fun _ => rfl) (fun _ => rfl) soloM l 40 0 rfl (Nat.zero_le _) 100000 (by omega) (fun _ => 0) [] r hr
  rw [List.append_nil] at hf
  obtain ⟨r0, hr0, hpre⟩ : ∃ r, (r.a.a.a = rowB l ∧ r.a.a.f = .ptr 218 0 ∧ r.a.a.h = .int .i64 ((0 : Nat) : Int)) ∧ z6.sh (orc CC (memoL m_S)) R [] ⟨[], lenF ([] : Heap)⟩ = seqK (seqZ (q6_19 (orc CC (memoL m_S))) retZ) (blkK 0 (loopN (q6_18 (orc CC (memoL m_S))) 100000 r [] ⟨hS (stS (fun _ => 0) 0), 0⟩)) := by
    simp only [z6, q6_0, q6_1, q6_3, q6_4, q6_5, q6_7, SIM, ST0, ST1, e0, h13, h14, exS0, exS1, hm, List.length_nil, Nat.zero_min, Nat.reduceAdd, Nat.reduceLeDiff]
    exact ⟨_, ⟨by first | rfl | exact e0, rfl, rfl⟩, rfl⟩
  rw [hpre]
  obtain ⟨H', h1⟩ := hf r0 hr0
  rw [h1]
  simp only [z6, q6_19, SIM, ST0]
end Go.Proofs
