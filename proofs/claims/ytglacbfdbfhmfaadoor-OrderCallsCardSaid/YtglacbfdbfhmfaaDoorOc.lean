/- the texts of the law, and its head. Part of the proof of girandolelaw09.OrderCalls. -/
import Derived.Test.YtglacbfdbfhmfaaDoorDec
import Derived.Test.YtglacbfdbfhmfaaDoorB2
set_option linter.unusedVariables false
set_option linter.unusedSimpArgs false
set_option maxRecDepth 1000000
namespace Go.Proofs
open Go Go.Abs
/-! the texts of the law, and their nodes -/
namespace Oc
def base (n i : Nat) : List Nat := if i + 1 < n then [102, 98 + i, 40, 97, 41] else [97]
def what (n d i : Nat) : List Nat := if i = d then [48,32,45,62,32,112,114,101,32,40] ++ base n i ++ [41] else base n i
def nodeT (n d i : Nat) : List Nat := [110,111,100,101,32,102,97 + i,40,97,58,32,105,110,116,41,32,114,101,116,117,114,110,115,32,40,98,58,32,105,110,116,41,32,108,101,116,32,98,32,61,32] ++ what n d i ++ [59,32,116,101,108,32]
def firstT (n d : Nat) : List Nat := if d = n + 1 then [40,53,32,102,98,121,32,121,41] else [121]
def headT (n d : Nat) : List Nat := [110,111,100,101,32,102,40,120,58,32,105,110,116,41,32,114,101,116,117,114,110,115,32,40,121,58,32,105,110,116,41,32,108,101,116,32,121,32,61,32,102,97,40] ++ firstT n d ++ [41,32,43,32,120,59,32,116,101,108,32]
def restT (n d : Nat) : Nat → List Nat
  | 0 => []
  | k + 1 => nodeT n d (n - (k + 1)) ++ restT n d k
def text (n d : Nat) : List Nat := headT n d ++ restT n d n

def baseE (n i q : Nat) : Ex := if i + 1 < n then .mk 13 q 0 [102, 98 + i] false [.mk 3 (q + 3) 0 [97] false []] else .mk 3 q 0 [97] false []
def whatE (n d i q : Nat) : Ex := if i = d then .mk 8 (q + 2) 0 [] false [.mk 1 q 0 [] false [], .mk 10 (q + 5) 0 [] false [baseE n i (q + 10)]] else baseE n i q
def decl (s : List Nat) (p : Nat) : DeR := ⟨s, p, false, false, [], false⟩
def nodeR (n d i o : Nat) : NdR := ⟨[102, 97 + i], o + 5, [decl [97] (o + 8)], [decl [98] (o + 25)], [], [⟨[([98], o + 37)], false, whatE n d i (o + 41)⟩]⟩
def restR (n d : Nat) : Nat → Nat → List NdR
  | 0, _ => []
  | k + 1, o => nodeR n d (n - (k + 1)) o :: restR n d k (o + (nodeT n d (n - (k + 1))).length)
def firstE (n d : Nat) : Ex := if d = n + 1 then .mk 9 46 0 [] false [.mk 1 44 5 [] false [], .mk 3 50 0 [121] false []] else .mk 3 43 0 [121] false []
def headR (n d : Nat) : NdR := ⟨[102], 5, [decl [120] 7], [decl [121] 24], [], [⟨[([121], 36)], false, .mk 6 (43 + (firstT n d).length + 2) 0 [43] false [.mk 13 40 0 [102, 97] false [firstE n d], .mk 3 (43 + (firstT n d).length + 4) 0 [120] false []]⟩]⟩
def nodes (n d : Nat) : List NdR := headR n d :: restR n d n (headT n d).length
end Oc
end Go.Proofs
set_option maxRecDepth 1000000
namespace Go.Proofs
open Go Go.Abs
theorem fin_up {f b : Nat} {z : FZ} {X Y : IRes} {r : CRes} (h : ∀ x, X = some x → Y = some x) (hx : finZ CC f b z X = some r) : finZ CC f b z Y = some r := by
  cases hX : X with
  | none => rw [hX] at hx; cases hx
  | some x => rw [h x hX, ← hX]; exact hx
/-- a run by what is known is a run -/
theorem lift_ {M : Memo} {rec : RecT} {f : FuncId} {z : FZ} {args : List AV} {H : Heap} {r : CRes} (hrec : RLe rec (orc CC M)) (hM : M f args = none) (hz : tget tab f = some z) (hl : Nat.ble (lenF args) 512 = true)
    (hx : finZ CC f (lenF H) z (z.sh rec (envOf args 0 env0) [] ⟨H, lenF H⟩) = some r) : orc CC M f args H = some r :=
  begin_ hM hz hl (fin_up (fun x h => (tab_ok f z hz).mono hrec h) hx)
def kNone : Kn := fun _ _ _ => none
theorem kNone_ok {M : Memo} : KnOk CC M kNone := fun _ _ _ _ h _ => by cases h
noncomputable def recN (m : List (FuncId × List AV × AV)) : RecT := callK CC (memoL m) (tget tab) kNone 3000
theorem recN_le (m : List (FuncId × List AV × AV)) : RLe (recN m) (orc CC (memoL m)) := callK_ok cc_mask tabT kNone_ok 3000

/-! the head: two texts that the document fixes -/
def txA : List Nat := [110,111,100,101,32,102,40,120,58,32,105,110,116,41,32,114,101,116,117,114,110,115,32,40,121,58,32,105,110,116,41,32,108,101,116,32,121,32,61,32,120,32,43,32,121,59,32,116,101,108]
def txB : List Nat := [110,111,100,101,32,102,40,120,58,32,105,110,116,41,32,114,101,116,117,114,110,115,32,40,121,58,32,105,110,116,41,32,108,101,116,32,121,32,61,32,48,32,45,62,32,112,114,101,32,121,32,43,32,120,59,32,116,101,108]
def ndA : List NdR := [⟨[102], 5, [Oc.decl [120] 7], [Oc.decl [121] 24], [], [⟨[([121], 36)], false, .mk 6 42 0 [43] false [.mk 3 40 0 [120] false [], .mk 3 44 0 [121] false []]⟩]⟩]
def ndB : List NdR := [⟨[102], 5, [Oc.decl [120] 7], [Oc.decl [121] 24], [], [⟨[([121], 36)], false, .mk 8 42 0 [] false [.mk 1 40 0 [] false [], .mk 6 51 0 [43] false [.mk 10 45 0 [] false [.mk 3 49 0 [121] false []], .mk 3 53 0 [120] false []]]⟩]⟩]
theorem sA : okS txA = true := by kernel_rfl
theorem sB : okS txB = true := by kernel_rfl
theorem pA : parseS txA = some ndA := by kernel_rfl
theorem pB : parseS txB = some ndB := by kernel_rfl
abbrev mAB : List (FuncId × List AV × AV) := (8, [.str txA], pV ndA) :: (8, [.str txB], pV ndB) :: memo1
theorem mAB_ok : MemoOk CC (memoL mAB) := memo_parse (memo_parse memo1_ok sB pB) sA pA
theorem r_awake09 : recN mAB 12 [] [] = some (.ret (.bool true) [] 0) := by kernel_rfl
def m_aw09 : List (FuncId × List AV × AV) := (12, [], .bool true) :: memo1
theorem m_aw09_ok : MemoOk CC (memoL m_aw09) := memo_cons cc_goodF cc_scal memo1_ok mAB_ok rfl (by kernel_rfl) (recN_le mAB _ _ _ _ r_awake09)

/-- a text's fault, as known -/
def mt (tx : List Nat) (v : AV) : List (FuncId × List AV × AV) := (14, [.str tx], v) :: m_aw09
theorem mt_ok {tx : List Nat} {l : List NdR} {v : AV} (hs : okS tx = true) (hp : parseS tx = some l) (hv : v.low 0 = true) (hr : recN ((8, [.str tx], pV l) :: memo1) 14 [.str tx] [] = some (.ret v [] 0)) : MemoOk CC (memoL (mt tx v)) :=
  memo_cons cc_goodF cc_scal m_aw09_ok (memo_parse memo1_ok hs hp) rfl hv (recN_le _ _ _ _ _ hr)

/-- what a number becomes -/
theorem num255 (n : Int) : ∃ m : Nat, binV CC .and 3 true (.int .i64 n) (.int .i64 255) = some (.int .i64 (m : Int)) := by
  let m := (BitVec.ofInt IntKind.i64.bits n &&& BitVec.ofInt IntKind.i64.bits 255).toNat
  have hm : m ≤ 255 := by
    show (BitVec.ofInt IntKind.i64.bits n &&& BitVec.ofInt IntKind.i64.bits 255).toNat ≤ 255
    rw [BitVec.toNat_and]
    exact Nat.le_trans Nat.and_le_right (by decide)
  have hw : IntKind.wrap .i64 (m : Int) = (m : Int) := wrap_nat (by unfold natMax; omega)
  refine ⟨m, ?_⟩
  show binOpAV CC .and 3 (.int .i64 n) (.int .i64 255) = _
  simp only [binOpAV, intOpAV, if_true]
  exact congrArg (fun x => some (AV.int .i64 x)) hw
theorem rem_n (b : Bool) (m c : Nat) (hc : 0 < c) (hm : c ≤ 1000) : binV CC .rem 3 b (.int .i64 (m : Int)) (.int .i64 (c : Int)) = some (.int .i64 ((m % c : Nat) : Int)) := by
  have h0 : binOpAV CC .rem 3 (.int .i64 (m : Int)) (.int .i64 (c : Int)) = some (.int .i64 ((m % c : Nat) : Int)) := by
    simp only [binOpAV, intOpAV, if_true]
    rw [if_neg (by omega)]
    rfl
  cases b
  · exact h0
  · exact h0
end Go.Proofs
set_option maxRecDepth 1000000
namespace Go.Proofs
open Go Go.Abs
noncomputable section
def rest6 (rec : RecT) : CZ := (seqZ (q6_5 rec) (seqZ (q6_6 rec) (seqZ (seqZ (q6_7 rec) (condZ (.t 24) (q6_8 rec) skipZ)) (seqZ (q6_9 rec) (seqZ (seqZ (q6_10 rec) (blkZ 0 (loopZ (q6_20 rec)))) (seqZ (seqZ (q6_21 rec) (condZ (.t 64) (seqZ (q6_22 rec) retZ) skipZ)) (seqZ (q6_23 rec) retZ)))))))
def reg6 (n dl : Int) (k d : Nat) : RG := st (st (st (st (envOf [.int .i64 n, .int .i64 dl] 0 env0) 4 (.bool false)) 11 (.bool false)) 0 (.int .i64 (k : Int))) 1 (.int .i64 (d : Int))
end
def vOc (n d : Nat) : AV := if d = n then .agg [.int .i64 5, .int .i64 10] else .agg [.int .i64 0, .int .i64 0]
theorem vOc_low (n d : Nat) : (vOc n d).low 0 = true := by unfold vOc; split <;> rfl
def goes6 (n d : Nat) : Prop := ∀ a b : Int, finZ CC 6 0 z6 (rest6 (recN (mt (Oc.text n d) (vOc n d))) (reg6 a b n d) [] ⟨[], 0⟩) = some (.ret (.bool true) [] 0)
/-- all that is to be run for a text -/
structure Case6 (n d : Nat) : Prop where
  s : okS (Oc.text n d) = true
  p : parseS (Oc.text n d) = some (Oc.nodes n d)
  r : recN ((8, [.str (Oc.text n d)], pV (Oc.nodes n d)) :: memo1) 14 [.str (Oc.text n d)] [] = some (.ret (vOc n d) [] 0)
  g : goes6 n d
/-- the law up to where the text begins -/
theorem head6 {rec : RecT} (h12 : rec 12 [] [] = some (.ret (.bool true) [] 0)) {a b : Int} {m m' : Nat} (hv : binV CC .and 3 true (.int .i64 a) (.int .i64 255) = some (.int .i64 (m : Int))) (hv' : binV CC .and 3 true (.int .i64 b) (.int .i64 255) = some (.int .i64 (m' : Int))) :
    z6.sh rec (envOf [.int .i64 a, .int .i64 b] 0 env0) [] ⟨[], lenF ([] : Heap)⟩ = rest6 rec (reg6 a b (m % 10 + 1) (m' % (m % 10 + 3))) [] ⟨[], 0⟩ := by
  have e0 : (envOf [AV.int .i64 a, .int .i64 b] 0 env0).a.a.a = .int .i64 a := rfl
  have e1 : (envOf [AV.int .i64 a, .int .i64 b] 0 env0).a.a.b = .int .i64 b := rfl
  have h10 := rem_n true m 10 (by omega) (by omega)
  have hadd : addF 1 ((m % 10 : Nat) : Int) = ((m % 10 + 1 : Nat) : Int) := by
    rw [show (1 : Int) = ((1 : Nat) : Int) from rfl, addF_i 1 (m % 10) (by unfold natMax; omega), Nat.add_comm]
  have hadd2 : addF ((m % 10 + 1 : Nat) : Int) 2 = ((m % 10 + 3 : Nat) : Int) := by
    rw [show (2 : Int) = ((2 : Nat) : Int) from rfl, addF_i (m % 10 + 1) 2 (by unfold natMax; omega)]
  have hr2 := rem_n false m' (m % 10 + 3) (by omega) (by omega)
  unfold reg6
  generalize envOf [AV.int .i64 a, .int .i64 b] 0 env0 = R at e0 e1
  have h10' : binV CC .rem 3 true (.int .i64 (m : Int)) (.int .i64 10) = some (.int .i64 ((m % 10 : Nat) : Int)) := h10
  simp only [z6, q6_0, q6_1, q6_3, q6_4, SIM, ST0, ST1, e0, e1, h12, hv, hv', h10', hadd, hadd2, hr2, List.length_nil, Nat.zero_min, Nat.reduceAdd, Nat.reduceLeDiff]
  rfl
theorem law6_of {a b : Int} {m m' : Nat} (hv : binV CC .and 3 true (.int .i64 a) (.int .i64 255) = some (.int .i64 (m : Int))) (hv' : binV CC .and 3 true (.int .i64 b) (.int .i64 255) = some (.int .i64 (m' : Int)))
    (hc : Case6 (m % 10 + 1) (m' % (m % 10 + 3))) : ∃ M, MemoOk CC M ∧ orc CC M 6 [.int .i64 a, .int .i64 b] [] = some (.ret (.bool true) [] 0) := by
  refine ⟨_, mt_ok hc.s hc.p (vOc_low _ _) hc.r, lift_ (recN_le _) rfl (z := z6) (by kernel_rfl) rfl ?_⟩
  rw [head6 (m := m) (m' := m') rfl hv hv']
  exact hc.g a b
theorem law6 (a b : Int) (H : ∀ k d, k < 10 → d < k + 3 → Case6 (k + 1) d) : ∃ M, MemoOk CC M ∧ orc CC M 6 [.int .i64 a, .int .i64 b] [] = some (.ret (.bool true) [] 0) := by
  obtain ⟨m, hm⟩ := num255 a
  obtain ⟨m', hm'⟩ := num255 b
  exact law6_of hm hm' (H (m % 10) (m' % (m % 10 + 3)) (Nat.mod_lt _ (by omega)) (Nat.mod_lt _ (by omega)))
end Go.Proofs
