/- the law, case by case: up to three nodes. Part of the proof of girandolelaw12.SplitMany. -/
import Derived.Test.YtglacbfdbfhmfaaGreatDoorPar
set_option linter.unusedVariables false
set_option linter.unusedSimpArgs false
set_option maxRecDepth 1000000
namespace Go.Proofs
open Go Go.Abs
theorem memo1_par : ParKM (memoL memo1) := { memo1_fresh with par := parM_of (by decide) }
theorem r_awake12 : callK CC (memoL memo1) (tget tab) kPar 3000 18 [] [] = some (.ret (.bool true) [] 0) := by kernel_rfl
def m_aw12 : List (FuncId × List AV × AV) := (18, [], .bool true) :: memo1
theorem m_aw12_ok : MemoOk CC (memoL m_aw12) := memo_cons cc_goodF cc_scal memo1_ok memo1_ok rfl (by kernel_rfl) (orc_callK cc_mask tabT (kPar_ok memo1_par) r_awake12)
theorem pk_aw12 : ParKM (memoL m_aw12) := { lx := { m72 := fun _ => rfl, m73 := fun _ => rfl, m104 := fun _ => rfl, m105 := fun _ => rfl, m106 := fun _ => rfl, m107 := fun _ => rfl, m108 := fun _ => rfl, m109 := fun _ => rfl, m110 := fun _ => rfl, m140 := fun _ => rfl, m141 := fun _ => rfl, m142 := fun _ => rfl, m143 := fun _ => rfl, m144 := fun _ => rfl, w := rfl, wl := by decide, s := rfl, sl := by decide }, m30 := fun _ => rfl, m53 := fun _ => rfl, m74 := fun _ => rfl, m49 := fun _ => rfl, m50 := fun _ => rfl, par := parM_of (by decide) }
theorem fin_up {f b : Nat} {z : FZ} {X Y : IRes} {r : CRes} (h : ∀ x, X = some x → Y = some x) (hx : finZ CC f b z X = some r) : finZ CC f b z Y = some r := by
  cases hX : X with
  | none => rw [hX] at hx; cases hx
  | some x => rw [h x hX, ← hX]; exact hx
/-- a run by what is known is a run -/
theorem lift_ {M : Memo} {rec : RecT} {f : FuncId} {z : FZ} {args : List AV} {H : Heap} {r : CRes} (hrec : RLe rec (orc CC M)) (hM : M f args = none) (hz : tget tab f = some z) (hl : Nat.ble (lenF args) 512 = true)
    (hx : finZ CC f (lenF H) z (z.sh rec (envOf args 0 env0) [] ⟨H, lenF H⟩) = some r) : orc CC M f args H = some r :=
  begin_ hM hz hl (fin_up (fun x h => (tab_ok f z hz).mono hrec h) hx)
noncomputable section
def rest7 (rec : RecT) : CZ := (seqZ (q7_4 rec) (seqZ (seqZ (q7_5 rec) (blkZ 0 (loopZ (q7_14 rec)))) (seqZ (q7_15 rec) (seqZ (seqZ (q7_16 rec) (condZ (.t 64) (seqZ (q7_17 rec) retZ) skipZ)) (seqZ (q7_18 rec) (seqZ (seqZ (q7_19 rec) (condZ (.t 71) (seqZ (q7_20 rec) retZ) skipZ)) (seqZ (q7_21 rec) retZ)))))))
def reg7 (n : Int) (d : Nat) : RG := st (st (st (envOf [.int .i64 n] 0 env0) 2 (.bool false)) 13 (.bool false)) 0 (.int .i64 ((d + 1 : Nat) : Int))
def rec7 (m : List (FuncId × List AV × AV)) : RecT := callK CC (memoL m) (tget tab) kPar 3000
def goes7 (m : List (FuncId × List AV × AV)) (n : Int) (d : Nat) : Prop := finZ CC 7 0 z7 (rest7 (rec7 m) (reg7 n d) [] ⟨[], 0⟩) = some (.ret (.bool true) [] 0)
end

/-- what the number becomes -/
theorem num6 (n : Int) : ∃ k : Nat, k < 6 ∧ ∃ v, binV CC .and 3 true (.int .i64 n) (.int .i64 255) = some v ∧ binV CC .rem 3 true v (.int .i64 6) = some (.int .i64 (k : Int)) := by
  let m := (BitVec.ofInt IntKind.i64.bits n &&& BitVec.ofInt IntKind.i64.bits 255).toNat
  have hm : m ≤ 255 := by
    show (BitVec.ofInt IntKind.i64.bits n &&& BitVec.ofInt IntKind.i64.bits 255).toNat ≤ 255
    rw [BitVec.toNat_and]
    exact Nat.le_trans Nat.and_le_right (by decide)
  have hw : IntKind.wrap .i64 (m : Int) = (m : Int) := wrap_nat (by unfold natMax; omega)
  refine ⟨m % 6, by omega, .int .i64 (m : Int), ?_, ?_⟩
  · show binOpAV CC .and 3 (.int .i64 n) (.int .i64 255) = _
    simp only [binOpAV, intOpAV, if_true]
    exact congrArg (fun x => some (AV.int .i64 x)) hw
  · show binOpAV CC .rem 3 (.int .i64 (m : Int)) (.int .i64 6) = _
    simp only [binOpAV, intOpAV, if_true]
    rw [if_neg (by decide)]
    rfl

/-- the law up to where the text begins -/
theorem head7 {rec : RecT} (h18 : rec 18 [] [] = some (.ret (.bool true) [] 0)) {n : Int} {k : Nat} (hk : k < 6) {v : AV} (hv : binV CC .and 3 true (.int .i64 n) (.int .i64 255) = some v) (hv2 : binV CC .rem 3 true v (.int .i64 6) = some (.int .i64 (k : Int))) :
    z7.sh rec (envOf [.int .i64 n] 0 env0) [] ⟨[], lenF ([] : Heap)⟩ = rest7 rec (reg7 n k) [] ⟨[], 0⟩ := by
  have e0 : (envOf [AV.int .i64 n] 0 env0).a.a.a = .int .i64 n := rfl
  have hadd : addF 1 (k : Int) = ((k + 1 : Nat) : Int) := by
    rw [show (1 : Int) = ((1 : Nat) : Int) from rfl, addF_i 1 k (by unfold natMax; omega), Nat.add_comm]
  unfold reg7
  generalize envOf [AV.int .i64 n] 0 env0 = R at e0
  simp only [z7, q7_0, q7_1, q7_3, SIM, ST0, ST1, e0, h18, hv, hv2, hadd, List.length_nil, Nat.zero_min, Nat.reduceAdd, Nat.reduceLeDiff]
  rfl

theorem law7_of {m : List (FuncId × List AV × AV)} (hle : RLe (rec7 m) (orc CC (memoL m))) (hM : ∀ a, memoL m 7 a = none) (h18 : rec7 m 18 [] [] = some (.ret (.bool true) [] 0)) {n : Int} {k : Nat} (hk : k < 6) {v : AV} (hv : binV CC .and 3 true (.int .i64 n) (.int .i64 255) = some v) (hv2 : binV CC .rem 3 true v (.int .i64 6) = some (.int .i64 (k : Int)))
    (hg : goes7 m n k) : orc CC (memoL m) 7 [.int .i64 n] [] = some (.ret (.bool true) [] 0) := by
  refine lift_ hle (hM _) (z := z7) (by kernel_rfl) rfl ?_
  rw [head7 h18 hk hv hv2]
  exact hg
end Go.Proofs
set_option maxRecDepth 1000000
namespace Go.Proofs
open Go Go.Abs
theorem run7_0 (n : Int) : goes7 m_aw12 n 0 := by unfold goes7 reg7; kernel_rfl
end Go.Proofs
set_option maxRecDepth 1000000
namespace Go.Proofs
open Go Go.Abs
theorem run7_1 (n : Int) : goes7 m_aw12 n 1 := by unfold goes7 reg7; kernel_rfl
end Go.Proofs
set_option maxRecDepth 1000000
namespace Go.Proofs
open Go Go.Abs
theorem run7_2 (n : Int) : goes7 m_aw12 n 2 := by unfold goes7 reg7; kernel_rfl
end Go.Proofs
