/- the texts of the law, and its head. Part of the proof of girandolelaw08.FlatClocks. -/
import Derived.Test.YtglacbfdbfhmfaaDoorDec
import Derived.Test.YtglacbfdbfhmfaaDoorB2
set_option linter.unusedVariables false
set_option linter.unusedSimpArgs false
set_option maxRecDepth 1000000
namespace Go.Proofs
open Go Go.Abs
theorem fin_up {f b : Nat} {z : FZ} {X Y : IRes} {r : CRes} (h : ∀ x, X = some x → Y = some x) (hx : finZ CC f b z X = some r) : finZ CC f b z Y = some r := by
  cases hX : X with
  | none => rw [hX] at hx; cases hx
  | some x => rw [h x hX, ← hX]; exact hx
/-- a run by what is known is a run -/
theorem lift_ {M : Memo} {rec : RecT} {f : FuncId} {z : FZ} {args : List AV} {H : Heap} {r : CRes} (hrec : RLe rec (orc CC M)) (hM : M f args = none) (hz : tget tab f = some z) (hl : Nat.ble (lenF args) 512 = true)
    (hx : finZ CC f (lenF H) z (z.sh rec (envOf args 0 env0) [] ⟨H, lenF H⟩) = some r) : orc CC M f args H = some r :=
  begin_ hM hz hl (fin_up (fun x h => (tab_ok f z hz).mono hrec h) hx)
def kNone : Kn := fun _ _ _ => none
theorem kNone_ok {M : Memo} : KnOk CC M kNone := fun _ _ _ _ h _ => by cases h
noncomputable def recN (m : List (FuncId × List AV × AV)) : RecT := callK CC (memoL m) (tget tab) kNone 3000
theorem recN_le (m : List (FuncId × List AV × AV)) : RLe (recN m) (orc CC (memoL m)) := callK_ok cc_mask tabT kNone_ok 3000

namespace Oc
def decl (s : List Nat) (p : Nat) : DeR := ⟨s, p, false, false, [], false⟩
end Oc
/-- what a number becomes -/
theorem num255 (n : Int) : ∃ m : Nat, binV CC .and 3 true (.int .i64 n) (.int .i64 255) = some (.int .i64 (m : Int)) := by
  let m := (BitVec.ofInt IntKind.i64.bits n &&& BitVec.ofInt IntKind.i64.bits 255).toNat
  have hm : m ≤ 255 := by
    show (BitVec.ofInt IntKind.i64.bits n &&& BitVec.ofInt IntKind.i64.bits 255).toNat ≤ 255
    rw [BitVec.toNat_and]
    exact Nat.le_trans Nat.and_le_right (by decide)
  have hw : IntKind.wrap .i64 (m : Int) = (m : Int) := wrap_nat (by unfold natMax; omega)
  refine ⟨m, ?_⟩
  show binOpAV CC .and 3 (.int .i64 n) (.int .i64 255) = _
  simp only [binOpAV, intOpAV, if_true]
  exact congrArg (fun x => some (AV.int .i64 x)) hw
theorem rem_n (b : Bool) (m c : Nat) (hc : 0 < c) (hm : c ≤ 1000) : binV CC .rem 3 b (.int .i64 (m : Int)) (.int .i64 (c : Int)) = some (.int .i64 ((m % c : Nat) : Int)) := by
  have h0 : binOpAV CC .rem 3 (.int .i64 (m : Int)) (.int .i64 (c : Int)) = some (.int .i64 ((m % c : Nat) : Int)) := by
    simp only [binOpAV, intOpAV, if_true]
    rw [if_neg (by omega)]
    rfl
  cases b
  · exact h0
  · exact h0
end Go.Proofs
set_option maxRecDepth 1000000
namespace Go.Proofs
open Go Go.Abs
/-! the texts of the law, and their nodes -/
namespace Fc
def vr (s : Nat) (p : Nat) : Ex := .mk 3 p 0 [s] false []
def vars (n on : Nat) (sy : Bool) (i : Nat) : List Nat := if i + 1 = n then (cond sy [118,97,114,32,117,58,32,102,117,116,117,114,101,32,105,110,116,59,32] []) else if on = i + 1 then [118,97,114,32,116,58,32,105,110,116,32,119,104,101,110,32,99,59,32] else []
def body (n on : Nat) (sy : Bool) (i : Nat) : List Nat := if i + 1 = n then (cond sy [117,32,61,32,97,115,121,110,99,32,103,40,120,41,59,32,121,32,61,32,120,59,32,116,101,108,32] [121,32,61,32,120,59,32,116,101,108,32]) else
  if on = i + 1 then [116,32,61,32,102,49 + i,40,120,32,119,104,101,110,32,99,44,32,99,32,119,104,101,110,32,99,41,59,32,121,32,61,32,109,101,114,103,101,32,99,32,40,116,41,32,40,48,41,59,32,116,101,108,32] else [121,32,61,32,102,49 + i,40,120,44,32,99,41,59,32,116,101,108,32]
def nodeT (n on : Nat) (sy : Bool) (i : Nat) : List Nat := [110,111,100,101,32,102,48 + i,40,120,58,32,105,110,116,44,32,99,58,32,98,111,111,108,41,32,114,101,116,117,114,110,115,32,40,121,58,32,105,110,116,41,32] ++ vars n on sy i ++ [108,101,116,32] ++ body n on sy i
def lastT : List Nat := [110,111,100,101,32,103,40,97,58,32,105,110,116,41,32,114,101,116,117,114,110,115,32,40,98,58,32,105,110,116,41,32,108,101,116,32,98,32,61,32,97,59,32,116,101,108]
def restT (n on : Nat) (sy : Bool) : Nat → List Nat
  | 0 => lastT
  | k + 1 => nodeT n on sy (n - (k + 1)) ++ restT n on sy k
def text (n on : Nat) (sy : Bool) : List Nat := restT n on sy n

def varsR (n on : Nat) (sy : Bool) (i o : Nat) : List DeR := if i + 1 = n then (cond sy [⟨[117], o + 46, false, true, [], false⟩] []) else if on = i + 1 then [⟨[116], o + 46, false, false, [99], false⟩] else []
def bodyR (n on : Nat) (sy : Bool) (i q : Nat) : List EqR := if i + 1 = n then (cond sy [⟨[([117], q)], true, .mk 13 (q + 10) 0 [103] false [vr 120 (q + 12)]⟩, ⟨[([121], q + 16)], false, vr 120 (q + 20)⟩] [⟨[([121], q)], false, vr 120 (q + 4)⟩]) else
  if on = i + 1 then [⟨[([116], q)], false, .mk 13 (q + 4) 0 [102, 49 + i] false [.mk 11 (q + 9) 0 [99] false [vr 120 (q + 7)], .mk 11 (q + 19) 0 [99] false [vr 99 (q + 17)]]⟩, ⟨[([121], q + 28)], false, .mk 12 (q + 32) 0 [99] false [vr 116 (q + 41), .mk 1 (q + 45) 0 [] false []]⟩]
  else [⟨[([121], q)], false, .mk 13 (q + 4) 0 [102, 49 + i] false [vr 120 (q + 7), vr 99 (q + 10)]⟩]
def nodeR (n on : Nat) (sy : Bool) (i o : Nat) : NdR := ⟨[102, 48 + i], o + 5, [⟨[120], o + 8, false, false, [], false⟩, ⟨[99], o + 16, true, false, [], false⟩], [⟨[121], o + 34, false, false, [], false⟩], varsR n on sy i o, bodyR n on sy i (o + 46 + (vars n on sy i).length)⟩
def restR (n on : Nat) (sy : Bool) : Nat → Nat → List NdR
  | 0, o => [⟨[103], o + 5, [⟨[97], o + 7, false, false, [], false⟩], [⟨[98], o + 24, false, false, [], false⟩], [], [⟨[([98], o + 36)], false, vr 97 (o + 40)⟩]⟩]
  | k + 1, o => nodeR n on sy (n - (k + 1)) o :: restR n on sy k (o + (nodeT n on sy (n - (k + 1))).length)
def nodes (n on : Nat) (sy : Bool) : List NdR := restR n on sy n 0
end Fc
def txC : List Nat := [110,111,100,101,32,102,40,120,58,32,105,110,116,41,32,114,101,116,117,114,110,115,32,40,121,58,32,105,110,116,41,32,108,101,116,32,121,32,61,32,120,32,43,32,49,59,32,116,101,108]
def ndsC : List NdR := [⟨[102], 5, [Oc.decl [120] 7], [Oc.decl [121] 24], [], [⟨[([121], 36)], false, .mk 6 42 0 [43] false [.mk 3 40 0 [120] false [], .mk 1 44 1 [] false []]⟩]⟩]
theorem sC : okS txC = true := by kernel_rfl
theorem pC : parseS txC = some ndsC := by kernel_rfl
abbrev mC : List (FuncId × List AV × AV) := (8, [.str txC], pV ndsC) :: memo1
theorem mC_ok : MemoOk CC (memoL mC) := memo_parse memo1_ok sC pC
theorem r_awake08 : recN mC 7 [] [] = some (.ret (.bool true) [] 0) := by kernel_rfl
def m_aw08 : List (FuncId × List AV × AV) := (7, [], .bool true) :: memo1
theorem m_aw08_ok : MemoOk CC (memoL m_aw08) := memo_cons cc_goodF cc_scal memo1_ok mC_ok rfl (by kernel_rfl) (recN_le mC _ _ _ _ r_awake08)
noncomputable section
def rest4 (rec : RecT) : CZ := (seqZ (q4_5 rec) (seqZ (q4_6 rec) (seqZ (seqZ (q4_7 rec) (blkZ 0 (loopZ (q4_24 rec)))) (seqZ (q4_25 rec) (seqZ (q4_26 rec) (seqZ (q4_27 rec) (seqZ (seqZ (q4_28 rec) (condZ (.t 102) (seqZ (q4_29 rec) retZ) skipZ)) (seqZ (seqZ (q4_30 rec) (condZ (.t 112) (seqZ (q4_31 rec) retZ) skipZ)) (seqZ (q4_32 rec) retZ)))))))))
def reg4 (n dl : Int) (sy : Bool) (k d : Nat) : RG := st (st (st (st (envOf [.int .i64 n, .int .i64 dl, .bool sy] 0 env0) 6 (.bool false)) 17 (.bool false)) 0 (.int .i64 (k : Int))) 1 (.int .i64 (d : Int))
end
abbrev mF (n on : Nat) (sy : Bool) : List (FuncId × List AV × AV) := (8, [.str (Fc.text n on sy)], pV (Fc.nodes n on sy)) :: m_aw08
def goes4 (n on : Nat) (sy : Bool) : Prop := ∀ a b : Int, finZ CC 4 0 z4 (rest4 (recN (mF n on sy)) (reg4 a b sy n on) [] ⟨[], 0⟩) = some (.ret (.bool true) [] 0)
structure Case4 (n on : Nat) (sy : Bool) : Prop where
  s : okS (Fc.text n on sy) = true
  p : parseS (Fc.text n on sy) = some (Fc.nodes n on sy)
  g : goes4 n on sy
theorem head4 {rec : RecT} (h7 : rec 7 [] [] = some (.ret (.bool true) [] 0)) {a b : Int} {sy : Bool} {m m' : Nat} (hv : binV CC .and 3 true (.int .i64 a) (.int .i64 255) = some (.int .i64 (m : Int))) (hv' : binV CC .and 3 true (.int .i64 b) (.int .i64 255) = some (.int .i64 (m' : Int))) :
    z4.sh rec (envOf [.int .i64 a, .int .i64 b, .bool sy] 0 env0) [] ⟨[], lenF ([] : Heap)⟩ = rest4 rec (reg4 a b sy (m % 8 + 1) (m' % (m % 8 + 2))) [] ⟨[], 0⟩ := by
  have e0 : (envOf [AV.int .i64 a, .int .i64 b, .bool sy] 0 env0).a.a.a = .int .i64 a := rfl
  have e1 : (envOf [AV.int .i64 a, .int .i64 b, .bool sy] 0 env0).a.a.b = .int .i64 b := rfl
  have h8 := rem_n true m 8 (by omega) (by omega)
  have hadd : addF 1 ((m % 8 : Nat) : Int) = ((m % 8 + 1 : Nat) : Int) := by
    rw [show (1 : Int) = ((1 : Nat) : Int) from rfl, addF_i 1 (m % 8) (by unfold natMax; omega), Nat.add_comm]
  have hadd2 : addF ((m % 8 + 1 : Nat) : Int) 1 = ((m % 8 + 2 : Nat) : Int) := by
    rw [show (1 : Int) = ((1 : Nat) : Int) from rfl, addF_i (m % 8 + 1) 1 (by unfold natMax; omega)]
  have hr2 := rem_n false m' (m % 8 + 2) (by omega) (by omega)
  unfold reg4
  generalize envOf [AV.int .i64 a, .int .i64 b, .bool sy] 0 env0 = R at e0 e1
  have h8' : binV CC .rem 3 true (.int .i64 (m : Int)) (.int .i64 8) = some (.int .i64 ((m % 8 : Nat) : Int)) := h8
  simp only [z4, q4_0, q4_1, q4_3, q4_4, SIM, ST0, ST1, e0, e1, h7, hv, hv', h8', hadd, hadd2, hr2, List.length_nil, Nat.zero_min, Nat.reduceAdd, Nat.reduceLeDiff]
  rfl
theorem law4 (a b : Int) (sy : Bool) (H : ∀ k d, k < 8 → d < k + 2 → Case4 (k + 1) d sy) : ∃ M, MemoOk CC M ∧ orc CC M 4 [.int .i64 a, .int .i64 b, .bool sy] [] = some (.ret (.bool true) [] 0) := by
  obtain ⟨m, hm⟩ := num255 a
  obtain ⟨m', hm'⟩ := num255 b
  have hc := H (m % 8) (m' % (m % 8 + 2)) (Nat.mod_lt _ (by omega)) (Nat.mod_lt _ (by omega))
  refine ⟨_, memo_parse m_aw08_ok hc.s hc.p, lift_ (recN_le (mF _ _ _)) rfl (z := z4) (by kernel_rfl) rfl ?_⟩
  rw [head4 (m := m) (m' := m') rfl hm hm']
  exact hc.g a b
end Go.Proofs
