/- the law at 0 delays. Part of the proof of girandolelaw11.SoloRows. -/
import Derived.Test.YtglacbfdbfhmfaaGreatDoorSolo
import Derived.Test.YtglacbfdbfhmfaaGreatDoorCur
set_option linter.unusedVariables false
set_option linter.unusedSimpArgs false
set_option maxRecDepth 1000000
namespace Go.Proofs
open Go.Abs
def a_lex0 : List AV := [.str [110,111,100,101,32,102,40,97,58,32,105,110,116,44,32,98,58,32,105,110,116,41,32,114,101,116,117,114,110,115,32,40,121,58,32,105,110,116,44,32,122,58,32,105,110,116,41,32,108,101,116,32,121,32,61,32,97,32,43,32,98,59,32,122,32,61,32,97,59,32,116,101,108]]
def v_lex0 : AV := (.tuple [(.sl 4 [(.agg [(.int .i64 3),(.int .i64 0),(.str [110,111,100,101]),(.int .u64 0)]),(.agg [(.int .i64 1),(.int .i64 5),(.str [102]),(.int .u64 0)]),(.agg [(.int .i64 4),(.int .i64 6),(.str [40]),(.int .u64 0)]),(.agg [(.int .i64 1),(.int .i64 7),(.str [97]),(.int .u64 0)]),(.agg [(.int .i64 4),(.int .i64 8),(.str [58]),(.int .u64 0)]),(.agg [(.int .i64 3),(.int .i64 10),(.str [105,110,116]),(.int .u64 0)]),(.agg [(.int .i64 4),(.int .i64 13),(.str [44]),(.int .u64 0)]),(.agg [(.int .i64 1),(.int .i64 15),(.str [98]),(.int .u64 0)]),(.agg [(.int .i64 4),(.int .i64 16),(.str [58]),(.int .u64 0)]),(.agg [(.int .i64 3),(.int .i64 18),(.str [105,110,116]),(.int .u64 0)]),(.agg [(.int .i64 4),(.int .i64 21),(.str [41]),(.int .u64 0)]),(.agg [(.int .i64 3),(.int .i64 23),(.str [114,101,116,117,114,110,115]),(.int .u64 0)]),(.agg [(.int .i64 4),(.int .i64 31),(.str [40]),(.int .u64 0)]),(.agg [(.int .i64 1),(.int .i64 32),(.str [121]),(.int .u64 0)]),(.agg [(.int .i64 4),(.int .i64 33),(.str [58]),(.int .u64 0)]),(.agg [(.int .i64 3),(.int .i64 35),(.str [105,110,116]),(.int .u64 0)]),(.agg [(.int .i64 4),(.int .i64 38),(.str [44]),(.int .u64 0)]),(.agg [(.int .i64 1),(.int .i64 40),(.str [122]),(.int .u64 0)]),(.agg [(.int .i64 4),(.int .i64 41),(.str [58]),(.int .u64 0)]),(.agg [(.int .i64 3),(.int .i64 43),(.str [105,110,116]),(.int .u64 0)]),(.agg [(.int .i64 4),(.int .i64 46),(.str [41]),(.int .u64 0)]),(.agg [(.int .i64 3),(.int .i64 48),(.str [108,101,116]),(.int .u64 0)]),(.agg [(.int .i64 1),(.int .i64 52),(.str [121]),(.int .u64 0)]),(.agg [(.int .i64 4),(.int .i64 54),(.str [61]),(.int .u64 0)]),(.agg [(.int .i64 1),(.int .i64 56),(.str [97]),(.int .u64 0)]),(.agg [(.int .i64 4),(.int .i64 58),(.str [43]),(.int .u64 0)]),(.agg [(.int .i64 1),(.int .i64 60),(.str [98]),(.int .u64 0)]),(.agg [(.int .i64 4),(.int .i64 61),(.str [59]),(.int .u64 0)]),(.agg [(.int .i64 1),(.int .i64 63),(.str [122]),(.int .u64 0)]),(.agg [(.int .i64 4),(.int .i64 65),(.str [61]),(.int .u64 0)]),(.agg [(.int .i64 1),(.int .i64 67),(.str [97]),(.int .u64 0)]),(.agg [(.int .i64 4),(.int .i64 68),(.str [59]),(.int .u64 0)]),(.agg [(.int .i64 3),(.int .i64 70),(.str [116,101,108]),(.int .u64 0)]),(.agg [(.int .i64 5),(.int .i64 73),(.str []),(.int .u64 0)])] .dead),(.agg [(.int .i64 0),(.int .i64 0)])])
theorem r_lex0 : callZ CC (memoL m_awake) (tget tab) 3000 45 a_lex0 [] = some (.ret v_lex0 [] 0) := by kernel_rfl
def m_lex0 : List (FuncId × List AV × AV) := (45, a_lex0, v_lex0) :: m_awake
theorem m_lex0_ok : MemoOk CC (memoL m_lex0) := memo_cons cc_goodF cc_scal m_awake_ok m_awake_ok rfl (by kernel_rfl) (orc_callZ cc_mask tabT r_lex0)
def a_parse0 : List AV := a_lex0
def nd0 : List AV := [(.str [102]),(.int .i64 5),(.sl 6 [(.agg [(.str [97]),(.int .i64 7),(.bool false),(.bool false),(.str []),(.bool false)]),(.agg [(.str [98]),(.int .i64 15),(.bool false),(.bool false),(.str []),(.bool false)])] .dead),(.sl 6 [(.agg [(.str [121]),(.int .i64 32),(.bool false),(.bool false),(.str []),(.bool false)]),(.agg [(.str [122]),(.int .i64 40),(.bool false),(.bool false),(.str []),(.bool false)])] .dead),.nils,(.sl 8 [(.agg [(.sl 2 [(.agg [(.str [121]),(.int .i64 52)])] .dead),(.bool false),(.int .i64 6),(.int .i64 58),(.int .i64 0),(.str [43]),(.bool false),(.sl 6 [(.agg [(.int .i64 3),(.int .i64 56),(.int .i64 0),(.str [97]),(.bool false),.nils]),(.agg [(.int .i64 3),(.int .i64 60),(.int .i64 0),(.str [98]),(.bool false),.nils])] .lit)]),(.agg [(.sl 2 [(.agg [(.str [122]),(.int .i64 63)])] .dead),(.bool false),(.int .i64 3),(.int .i64 67),(.int .i64 0),(.str [97]),(.bool false),.nils])] .dead)]
def v_parse0 : AV := (.tuple [(.sl 6 [(.agg nd0)] .dead),(.agg [(.int .i64 0),(.int .i64 0)])])
theorem r_parse0 : callK CC (memoL m_lex0) (tget tab) kCur 3000 14 a_parse0 [] = some (.ret v_parse0 [] 0) := by kernel_rfl
def m_parse0 : List (FuncId × List AV × AV) := (14, a_parse0, v_parse0) :: m_lex0
theorem m_parse0_ok : MemoOk CC (memoL m_parse0) := memo_cons cc_goodF cc_scal m_lex0_ok m_lex0_ok rfl (by kernel_rfl) (orc_callK cc_mask tabT (kCur_ok (fun _ => rfl) (fun _ => rfl) (fun _ => rfl) (fun _ => rfl) (fun _ => rfl)) r_parse0)
end Go.Proofs
set_option maxRecDepth 1000000
namespace Go.Proofs
open Go.Abs
noncomputable section
def rec0 : RecT := callZ CC (memoL m_parse0) (tget tab) 3000
def p0 : AV := (.ptr 48 0)
/-- memory ahead of a step: the delays' values m, and what else stands there (j), which doesn't count -/
def hd0 (j : Nat → AV) (m : Nat → Int) : Heap := [(.cells [(.int .i64 0),(.int .i64 0)]),(.cells [(.int .i64 0),(.int .i64 0)]),(.cells nd0),(.cells [(.str [102]),(.int .i64 5),(.int .i64 7),(.sl 1 [(.int .i64 0),(.int .i64 1)] (.live 9 1)),(.sl 1 [(.int .i64 4),(.int .i64 5)] (.live 40 1)),(.sl 4 [(.agg [(.str [99,111,112,121]),(.int .i64 2),(.sl 3 [(.agg [(.bool false),(.int .i64 0),(.int .i64 0)])] .dead),.nils]),(.agg [(.str [99,111,112,121]),(.int .i64 3),(.sl 3 [(.agg [(.bool false),(.int .i64 0),(.int .i64 1)])] (.live 10 1)),.nils]),(.agg [(.str [43]),(.int .i64 6),(.sl 3 [(.agg [(.bool false),(.int .i64 0),(.int .i64 2)]),(.agg [(.bool false),(.int .i64 0),(.int .i64 3)])] .dead),(.sl 2 [] .lit)]),(.agg [(.str [99,111,112,121]),(.int .i64 4),(.sl 3 [(.agg [(.bool false),(.int .i64 0),(.int .i64 6)])] (.live 34 0)),(.sl 2 [] .lit)]),(.agg [(.str [99,111,112,121]),(.int .i64 5),(.sl 3 [(.agg [(.bool false),(.int .i64 0),(.int .i64 2)])] .dead),(.sl 2 [] .lit)])] (.live 22 4)),.nils,.nils,.nils,(.int .i64 4)]),(.cells [(.ptr 3 0),(.sl 6 [(.agg nd0)] .dead)]),(.cells [(.ptr 4 0)]),(.cells [(.int .i64 0),(.int .i64 0)]),(.cells nd0),(.cells [(.str [97]),(.int .i64 7),(.bool false),(.bool false),(.str []),(.bool false)]),(.lin 1),(.lin 1),(.cells [(.str [98]),(.int .i64 15),(.bool false),(.bool false),(.str []),(.bool false)]),(.cells [(.ptr 4 0)]),(.cells nd0),(.map [((.str [97]),(.int .i64 2)),((.str [98]),(.int .i64 3)),((.str [121]),(.int .i64 4)),((.str [122]),(.int .i64 5))]),(.map []),(.cells [(.str [102]),(.int .i64 5),(.sl 6 [(.agg [(.str [97]),(.int .i64 7),(.bool false),(.bool false),(.str []),(.bool false)]),(.agg [(.str [98]),(.int .i64 15),(.bool false),(.bool false),(.str []),(.bool false)])] .dead),(.sl 6 [(.agg [(.str [121]),(.int .i64 32),(.bool false),(.bool false),(.str []),(.bool false)]),(.agg [(.str [122]),(.int .i64 40),(.bool false),(.bool false),(.str []),(.bool false)])] .dead),.nils,(.sl 8 [(.agg [(.sl 2 [(.agg [(.str [121]),(.int .i64 52)])] .dead),(.bool false),(.int .i64 6),(.int .i64 58),(.int .i64 0),(.str [43]),(.bool false),(.sl 6 [(.agg [(.int .i64 3),(.int .i64 56),(.int .i64 0),(.str [97]),(.bool false),.nils]),(.agg [(.int .i64 3),(.int .i64 60),(.int .i64 0),(.str [98]),(.bool false),.nils])] .lit)]),(.agg [(.sl 2 [(.agg [(.str [122]),(.int .i64 63)])] .dead),(.bool false),(.int .i64 3),(.int .i64 67),(.int .i64 0),(.str [97]),(.bool false),.nils])] .dead),(.map 14),(.map 15),.nils]),(.cells [(.str [97]),(.int .i64 7),(.bool false),(.bool false),(.str []),(.bool false)]),(.cells [(.str [98]),(.int .i64 15),(.bool false),(.bool false),(.str []),(.bool false)]),(.cells [(.str [121]),(.int .i64 32),(.bool false),(.bool false),(.str []),(.bool false)]),(.cells [(.str [122]),(.int .i64 40),(.bool false),(.bool false),(.str []),(.bool false)]),(.cells [(.str [97]),(.int .i64 7),(.bool false),(.bool false),(.str []),(.bool false)]),(.lin 4),(.cells [(.str [98]),(.int .i64 15),(.bool false),(.bool false),(.str []),(.bool false)]),(.cells [(.sl 2 [(.agg [(.str [121]),(.int .i64 52)])] .dead),(.bool false),(.int .i64 6),(.int .i64 58),(.int .i64 0),(.str [43]),(.bool false),(.sl 6 [(.agg [(.int .i64 3),(.int .i64 56),(.int .i64 0),(.str [97]),(.bool false),.nils]),(.agg [(.int .i64 3),(.int .i64 60),(.int .i64 0),(.str [98]),(.bool false),.nils])] .lit)]),(.cells [(.sl 2 [(.agg [(.str [122]),(.int .i64 63)])] .dead),(.bool false),(.int .i64 3),(.int .i64 67),(.int .i64 0),(.str [97]),(.bool false),.nils]),(.cells [(.sl 2 [(.agg [(.str [121]),(.int .i64 52)])] .dead),(.bool false),(.int .i64 6),(.int .i64 58),(.int .i64 0),(.str [43]),(.bool false),(.sl 6 [(.agg [(.int .i64 3),(.int .i64 56),(.int .i64 0),(.str [97]),(.bool false),.nils]),(.agg [(.int .i64 3),(.int .i64 60),(.int .i64 0),(.str [98]),(.bool false),.nils])] .lit)]),(.cells [(.sl 2 [(.agg [(.str [122]),(.int .i64 63)])] .dead),(.bool false),(.int .i64 3),(.int .i64 67),(.int .i64 0),(.str [97]),(.bool false),.nils]),(.cells [(.sl 2 [(.agg [(.str [121]),(.int .i64 52)])] .dead),(.bool false),(.int .i64 6),(.int .i64 58),(.int .i64 0),(.str [43]),(.bool false),(.sl 6 [(.agg [(.int .i64 3),(.int .i64 56),(.int .i64 0),(.str [97]),(.bool false),.nils]),(.agg [(.int .i64 3),(.int .i64 60),(.int .i64 0),(.str [98]),(.bool false),.nils])] .lit)]),(.cells [(.sl 2 [(.agg [(.str [121]),(.int .i64 52)])] .dead),(.bool false),(.int .i64 6),(.int .i64 58),(.int .i64 0),(.str [43]),(.bool false),(.sl 6 [(.agg [(.int .i64 3),(.int .i64 56),(.int .i64 0),(.str [97]),(.bool false),.nils]),(.agg [(.int .i64 3),(.int .i64 60),(.int .i64 0),(.str [98]),(.bool false),.nils])] .lit)]),(.cells [(.int .i64 6),(.int .i64 58),(.int .i64 0),(.str [43]),(.bool false),(.sl 6 [(.agg [(.int .i64 3),(.int .i64 56),(.int .i64 0),(.str [97]),(.bool false),.nils]),(.agg [(.int .i64 3),(.int .i64 60),(.int .i64 0),(.str [98]),(.bool false),.nils])] .lit)]),(.cells [(.int .i64 6),(.int .i64 58),(.int .i64 0),(.str [43]),(.bool false),(.sl 6 [(.agg [(.int .i64 3),(.int .i64 56),(.int .i64 0),(.str [97]),(.bool false),.nils]),(.agg [(.int .i64 3),(.int .i64 60),(.int .i64 0),(.str [98]),(.bool false),.nils])] .lit)]),(.cells [(.bool false),(.int .i64 0),(.int .i64 6)]),(.cells [(.bool false),(.int .i64 0),(.int .i64 6)]),(.lin 0),(.cells [(.str [121]),(.int .i64 52)]),(.cells [(.sl 2 [(.agg [(.str [122]),(.int .i64 63)])] .dead),(.bool false),(.int .i64 3),(.int .i64 67),(.int .i64 0),(.str [97]),(.bool false),.nils]),(.cells [(.sl 2 [(.agg [(.str [122]),(.int .i64 63)])] .dead),(.bool false),(.int .i64 3),(.int .i64 67),(.int .i64 0),(.str [97]),(.bool false),.nils]),(.cells [(.str [122]),(.int .i64 63)]),(.cells [(.str [121]),(.int .i64 32),(.bool false),(.bool false),(.str []),(.bool false)]),(.lin 1),(.cells [(.str [122]),(.int .i64 40),(.bool false),(.bool false),(.str []),(.bool false)]),(.cells [(.int .i64 0),(.int .i64 0)]),(.cells [(.int .i64 0),(.int .i64 0)]),(.cells [(.ptr 3 0),(.rsl 45 0 7 7 1)]),(.cells [j 0,j 1,j 2,j 3,j 4,j 5,j 6]),(.cells [(.ptr 3 0),(.rsl 45 0 7 7 1)]),(.lin 0),(.cells [(.ptr 3 0),(.rsl 45 0 7 7 1),(.sl 1 [(.int .i64 0),(.int .i64 1),(.int .i64 4),(.int .i64 2),(.int .i64 3)] (.live 47 0))])]
def jo0 (x : Option CRes) (k : Nat) : AV := atOf (hpOf x) 45 (cond (Nat.ble 6 k) (Nat.add k 0) k)
def mm0 (s : Int) (m : Nat → Int) (k : Nat) : Int := cond (Nat.beq (Nat.succ k) 0) s (m (Nat.succ k))
def jj0 (l : Option (List Int)) : Nat → Nat → AV
  | 0 => fun _ => .int .i64 0
  | i + 1 => jo0 (rec0 17 [p0, rowO l] (hd0 (jj0 l i) (fun k => want 0 (i + k) (fstO l) (sndO l))))
def h0 (l : Option (List Int)) (i : Nat) : Heap := hd0 (jj0 l i) (fun k => want 0 (i + k) (fstO l) (sndO l))
theorem hx0 (j : Nat → AV) (m m' : Nat → Int) (h : ∀ k, k < 0 → m k = m' k) : hd0 j m = hd0 j m' := by
  unfold hd0
  rfl
def nodes0 : AV := match v_parse0 with
  | .tuple (x :: _) => x
  | _ => .top
def ra0 (l : Option (List Int)) : RG := rgOf (preA rec0 (regO l 0) [] ⟨[], 0⟩)
def rb0 (l : Option (List Int)) : RG := rgOf (preB rec0 (st (st (ra0 l) 8 p0) 9 (.bool true)) [] ⟨h0 l 0, 0⟩)
theorem made0 (l : Option (List Int)) : rec0 15 [nodes0, .str [102]] faultO = some (.ret (.tuple [p0, .bool true]) (h0 l 0) 1) := by kernel_rfl
/-- a step is so -/
def s0 (l : Option (List Int)) : Prop := ∀ (j : Nat → AV) (m : Nat → Int), rec0 17 [p0, rowO l] (hd0 j m) =
    some (.ret (.sl 1 [.int .i64 (addF (fstO l) (sndO l)), .int .i64 (fstO l)] .dead) (hd0 (jo0 (rec0 17 [p0, rowO l] (hd0 j m))) (mm0 (addF (fstO l) (sndO l)) m)) (esOf (rec0 17 [p0, rowO l] (hd0 j m))))
theorem pa0_0 : preA rec0 (regO none 0) [] ⟨[], 0⟩ = some (.normal, ra0 none, [], ⟨faultO, 0⟩) ∧ gt (ra0 none) 6 = nodes0 := ⟨by kernel_rfl, by kernel_rfl⟩
theorem pn0_0 : preB rec0 (st (st (ra0 none) 8 p0) 9 (.bool true)) [] ⟨h0 none 0, 0⟩ = some (.normal, rb0 none, [], ⟨h0 none 0, 0⟩) ∧ Inv p0 (h0 none) 0 none 0 (rb0 none) ⟨h0 none 0, 0⟩ :=
  ⟨by kernel_rfl, by kernel_rfl, by kernel_rfl, by kernel_rfl, by kernel_rfl, by kernel_rfl, by kernel_rfl, rfl, rfl⟩
theorem st0_0 : s0 none := fun j m => by kernel_rfl
theorem pa0_1 : preA rec0 (regO (some []) 0) [] ⟨[], 0⟩ = some (.normal, ra0 (some []), [], ⟨faultO, 0⟩) ∧ gt (ra0 (some [])) 6 = nodes0 := ⟨by kernel_rfl, by kernel_rfl⟩
theorem pn0_1 : preB rec0 (st (st (ra0 (some [])) 8 p0) 9 (.bool true)) [] ⟨h0 (some []) 0, 0⟩ = some (.normal, rb0 (some []), [], ⟨h0 (some []) 0, 0⟩) ∧ Inv p0 (h0 (some [])) 0 (some []) 0 (rb0 (some [])) ⟨h0 (some []) 0, 0⟩ :=
  ⟨by kernel_rfl, by kernel_rfl, by kernel_rfl, by kernel_rfl, by kernel_rfl, by kernel_rfl, by kernel_rfl, rfl, rfl⟩
theorem st0_1 : s0 (some []) := fun j m => by kernel_rfl
theorem pa0_2 (a : Int) : preA rec0 (regO (some [a]) 0) [] ⟨[], 0⟩ = some (.normal, ra0 (some [a]), [], ⟨faultO, 0⟩) ∧ gt (ra0 (some [a])) 6 = nodes0 := ⟨by kernel_rfl, by kernel_rfl⟩
theorem pn0_2 (a : Int) : preB rec0 (st (st (ra0 (some [a])) 8 p0) 9 (.bool true)) [] ⟨h0 (some [a]) 0, 0⟩ = some (.normal, rb0 (some [a]), [], ⟨h0 (some [a]) 0, 0⟩) ∧ Inv p0 (h0 (some [a])) 0 (some [a]) 0 (rb0 (some [a])) ⟨h0 (some [a]) 0, 0⟩ :=
  ⟨by kernel_rfl, by kernel_rfl, by kernel_rfl, by kernel_rfl, by kernel_rfl, by kernel_rfl, by kernel_rfl, rfl, rfl⟩
theorem st0_2 (a : Int) : s0 (some [a]) := fun j m => by kernel_rfl
theorem pa0_3 (a b : Int) (c : List Int) : preA rec0 (regO (some (a :: b :: c)) 0) [] ⟨[], 0⟩ = some (.normal, ra0 (some (a :: b :: c)), [], ⟨faultO, 0⟩) ∧ gt (ra0 (some (a :: b :: c))) 6 = nodes0 := ⟨by kernel_rfl, by kernel_rfl⟩
theorem pn0_3 (a b : Int) (c : List Int) : preB rec0 (st (st (ra0 (some (a :: b :: c))) 8 p0) 9 (.bool true)) [] ⟨h0 (some (a :: b :: c)) 0, 0⟩ = some (.normal, rb0 (some (a :: b :: c)), [], ⟨h0 (some (a :: b :: c)) 0, 0⟩) ∧ Inv p0 (h0 (some (a :: b :: c))) 0 (some (a :: b :: c)) 0 (rb0 (some (a :: b :: c))) ⟨h0 (some (a :: b :: c)) 0, 0⟩ :=
  ⟨by kernel_rfl, by kernel_rfl, by kernel_rfl, by kernel_rfl, by kernel_rfl, by kernel_rfl, by kernel_rfl, rfl, rfl⟩
theorem st0_3 (a b : Int) (c : List Int) : s0 (some (a :: b :: c)) := fun j m => by kernel_rfl
theorem rows0 (l : Option (List Int)) (D : Int) (hD : oB (binV CC .and 3 true (.int .i64 D) (.int .i64 255)) (fun v0 => binV CC .rem 3 true v0 (.int .i64 10)) = some (.int .i64 ((0 : Nat) : Int))) :
    ∃ h' e', orc CC (memoL m_parse0) 4 [rowO l, .int .i64 D] [] = some (.ret (.bool true) h' e') := by
  have hle := orc_le (C := CC) cc_mask (M := memoL m_parse0) (T := tget tab) tab_ok 3000
  have key : ∀ l : Option (List Int), ((preA rec0 (regO l 0) [] ⟨[], 0⟩ = some (.normal, ra0 l, [], ⟨faultO, 0⟩) ∧ gt (ra0 l) 6 = nodes0) ∧ (preB rec0 (st (st (ra0 l) 8 p0) 9 (.bool true)) [] ⟨h0 l 0, 0⟩ = some (.normal, rb0 l, [], ⟨h0 l 0, 0⟩) ∧ Inv p0 (h0 l) 0 l 0 (rb0 l) ⟨h0 l 0, 0⟩)) ∧ s0 l := by
    intro l
    match l with
    | none => exact ⟨⟨pa0_0, pn0_0⟩, st0_0⟩
    | some [] => exact ⟨⟨pa0_1, pn0_1⟩, st0_1⟩
    | some [a] => exact ⟨⟨pa0_2 a, pn0_2 a⟩, st0_2 a⟩
    | some (a :: b :: c) => exact ⟨⟨pa0_3 a b c, pn0_3 a b c⟩, st0_3 a b c⟩
  obtain ⟨⟨⟨ka, kb⟩, kc, k2⟩, k3⟩ := key (cutO l)
  have k1 := pre_ok ka kb (made0 (cutO l)) kc
  refine law4 (memoL m_parse0) (fun _ => rfl) (fun _ => rfl) rfl hD (pre_mono hle k1) k2 ?_
  intro i hi
  generalize cutO l = l at k3
  have := k3 (jj0 l i) (fun k => want 0 (i + k) (fstO l) (sndO l))
  have hm : hd0 (jj0 l (i + 1)) (mm0 (addF (fstO l) (sndO l)) (fun k => want 0 (i + k) (fstO l) (sndO l))) = h0 l (i + 1) := by
    refine hx0 _ _ _ fun k hk => ?_
    unfold mm0 want
    rw [show i + 1 + k = i + Nat.succ k by omega]
    cases hb : Nat.beq (Nat.succ k) 0 with
    | false => rfl
    | true =>
      have := Nat.eq_of_beq_eq_true hb
      have hble : Nat.ble 0 (i + Nat.succ k) = true := by rw [Nat.ble_eq]; omega
      simp only [cond_true, hble]
  have hy : want 0 i (fstO l) (sndO l) = addF (fstO l) (sndO l) := by simp [want, Nat.ble]
  rw [hy, ← hm]
  exact ⟨_, hle _ _ _ _ this⟩
end
end Go.Proofs
