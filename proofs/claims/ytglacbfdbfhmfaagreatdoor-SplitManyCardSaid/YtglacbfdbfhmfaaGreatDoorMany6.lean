/- the law. Part of the proof of girandolelaw12.SplitMany. -/
import Derived.Test.YtglacbfdbfhmfaaGreatDoorMany
import Derived.Test.YtglacbfdbfhmfaaGreatDoorRun3
import Derived.Test.YtglacbfdbfhmfaaGreatDoorRun4
import Derived.Test.YtglacbfdbfhmfaaGreatDoorLoop5
set_option linter.unusedVariables false
set_option linter.unusedSimpArgs false
set_option maxRecDepth 1000000
namespace Go.Proofs
open Go Go.Abs
theorem seqZ_as (a b c : CZ) : seqZ (seqZ a b) c = seqZ a (seqZ b c) := by
  funext r ds s
  simp only [seqZ]
  cases a r ds s with
  | none => rfl
  | some x => obtain ⟨e, r1, ds1, s1⟩ := x; cases e <;> rfl

theorem le_of {m : List (FuncId × List AV × AV)} (h : ParKM (memoL m)) : RLe (rec7 m) (orc CC (memoL m)) := callK_ok cc_mask tabT (kPar_ok h) 3000

theorem z19_eq (rec : RecT) : z19.sh rec = seqZ (pre19 rec) (seqZ (blkZ 0 (loopZ (q19_14 rec))) (rest19 rec)) := by
  simp only [z19, pre19, rest19, seqZ_as]
theorem o19_5 : orc CC (memoL m_mp5) 19 [nd5] [.cells [.int .i64 0, .int .i64 0]] = some (.ret (.tuple [.nilp, .agg [.int .i64 5, .int .i64 14]]) [.cells [.int .i64 0, .int .i64 0]] 1) := by
  refine lift_ (le_of pk_mp5) rfl (z := z19) (by kernel_rfl) rfl ?_
  rw [z19_eq]
  show finZ CC 19 1 z19 (seqK (seqZ (blkZ 0 (loopZ (q19_14 (rec7 m_mp5)))) (rest19 (rec7 m_mp5))) (pre19 (rec7 m_mp5) (envOf [nd5] 0 env0) [] ⟨[cZ0], 1⟩)) = _
  rw [pre_5, seqK_n]
  exact loop_5 _
theorem o19_4 : orc CC (memoL m_mp4) 19 [nd4] [.cells [.int .i64 0, .int .i64 0]] = some (.ret (.tuple [.nilp, .agg [.int .i64 5, .int .i64 14]]) [.cells [.int .i64 0, .int .i64 0]] 1) := le_of pk_mp4 _ _ _ _ s19_4

noncomputable section
def pre7 (rec : RecT) : CZ := seqZ (q7_4 rec) (seqZ (q7_5 rec) (blkZ 0 (loopZ (q7_14 rec))))
def noR : RecT := fun _ _ _ => none
def rg7 (n : Int) (d : Nat) : RG := match pre7 noR (reg7 n d) [] ⟨[], 0⟩ with
  | some (_, r, _, _) => r
  | none => env0
end
theorem pre7_4 (rec : RecT) (n : Int) : pre7 rec (reg7 n 4) [] ⟨[], 0⟩ = some (.normal, rg7 n 4, [], ⟨[], 0⟩) := by kernel_rfl
theorem pre7_5 (rec : RecT) (n : Int) : pre7 rec (reg7 n 5) [] ⟨[], 0⟩ = some (.normal, rg7 n 5, [], ⟨[], 0⟩) := by kernel_rfl
theorem rg7_4 (n : Int) : (rg7 n 4).a.a.d = .str tx4 ∧ (rg7 n 4).a.a.e = .int .i64 31 := ⟨by kernel_rfl, by kernel_rfl⟩
theorem rg7_5 (n : Int) : (rg7 n 5).a.a.d = .str tx5 ∧ (rg7 n 5).a.a.e = .int .i64 63 := ⟨by kernel_rfl, by kernel_rfl⟩
theorem m7x_0 (a b : AV) : extV (.tuple [a, b]) 0 = some a := rfl
theorem m7x_1 (a b : AV) : extV (.tuple [a, b]) 1 = some b := rfl
theorem m7_eqn : binV CC .eql 44 true .nilp .nilp = some (.bool true) := by kernel_rfl
theorem m7_f0 : buildAV CC 29 [] = some (.agg [.int .i64 0, .int .i64 0]) := by kernel_rfl
theorem m7_f1 : buildAV CC 29 [(0, .int .i64 5), (1, .int .i64 14)] = some (.agg [.int .i64 5, .int .i64 14]) := by kernel_rfl
theorem m7_ne : binV CC .neq 29 false (.agg [.int .i64 0, .int .i64 0]) (.agg [.int .i64 0, .int .i64 0]) = some (.bool false) := by kernel_rfl
theorem m7_eq : binV CC .eql 29 false (.agg [.int .i64 5, .int .i64 14]) (.agg [.int .i64 5, .int .i64 14]) = some (.bool true) := by kernel_rfl

/-- more workers than there may be -/
theorem law7_far {m : List (FuncId × List AV × AV)} {n : Int} {d : Nat} {tx : List Nat} {nd : AV} {w : Int}
    (h14 : memoL m 14 [.str tx] = some (.tuple [nd, .agg [.int .i64 0, .int .i64 0]])) (h18 : memoL m 18 [] = some (.bool true)) (h7 : ∀ a, memoL m 7 a = none)
    (h19 : orc CC (memoL m) 19 [nd] [.cells [.int .i64 0, .int .i64 0]] = some (.ret (.tuple [.nilp, .agg [.int .i64 5, .int .i64 14]]) [.cells [.int .i64 0, .int .i64 0]] 1))
    (hpre : pre7 (orc CC (memoL m)) (reg7 n d) [] ⟨[], 0⟩ = some (.normal, rg7 n d, [], ⟨[], 0⟩)) (hr : (rg7 n d).a.a.d = .str tx ∧ (rg7 n d).a.a.e = .int .i64 w) (hw : decide (30 < w) = true)
    (hd : d < 6) {v : AV} (hv : binV CC .and 3 true (.int .i64 n) (.int .i64 255) = some v) (hv2 : binV CC .rem 3 true v (.int .i64 6) = some (.int .i64 (d : Int))) :
    orc CC (memoL m) 7 [.int .i64 n] [] = some (.ret (.bool true) [] 0) := by
  refine begin_ (z := z7) (h7 _) (by kernel_rfl) rfl ?_
  have h18' := orc_memo (C := CC) (h := []) h18
  have h14' := orc_memo (C := CC) (h := []) h14
  have hhead := head7 h18' hd hv hv2
  rw [hhead]
  have hrest : rest7 (orc CC (memoL m)) = seqZ (pre7 (orc CC (memoL m))) (seqZ (q7_15 (orc CC (memoL m))) (seqZ (seqZ (q7_16 (orc CC (memoL m))) (condZ (.t 64) (seqZ (q7_17 (orc CC (memoL m))) retZ) skipZ)) (seqZ (q7_18 (orc CC (memoL m))) (seqZ (seqZ (q7_19 (orc CC (memoL m))) (condZ (.t 71) (seqZ (q7_20 (orc CC (memoL m))) retZ) skipZ)) (seqZ (q7_21 (orc CC (memoL m))) retZ))))) := by
    simp only [rest7, pre7, seqZ_as]
  rw [hrest, seqZ_u, hpre, seqK_n]
  obtain ⟨h3, h4⟩ := hr
  generalize rg7 n d = R at h3 h4
  simp only [z7, q7_15, q7_16, q7_18, q7_19, q7_20, SIM, ST0, ST1, ST2, ST3, h3, h4, h14', h19, m7x_0, m7x_1, m7_eqn, m7_f0, m7_f1, m7_ne, m7_eq, hw, List.length_nil, Nat.zero_min, Nat.reduceAdd, Nat.reduceLeDiff]

theorem h14_4 : memoL m_mp4 14 [.str tx4] = some (.tuple [nd4, .agg [.int .i64 0, .int .i64 0]]) := by kernel_rfl
theorem h14_5 : memoL m_mp5 14 [.str tx5] = some (.tuple [nd5, .agg [.int .i64 0, .int .i64 0]]) := by kernel_rfl
theorem law7 (n : Int) : ∃ M, MemoOk CC M ∧ orc CC M 7 [.int .i64 n] [] = some (.ret (.bool true) [] 0) := by
  obtain ⟨d, hd, v, hv, hv2⟩ := num6 n
  match d, hd, hv2 with
  | 0, hd, hv2 => exact ⟨_, m_aw12_ok, law7_of (le_of pk_aw12) (fun _ => rfl) (by kernel_rfl) hd hv hv2 (run7_0 n)⟩
  | 1, hd, hv2 => exact ⟨_, m_aw12_ok, law7_of (le_of pk_aw12) (fun _ => rfl) (by kernel_rfl) hd hv hv2 (run7_1 n)⟩
  | 2, hd, hv2 => exact ⟨_, m_aw12_ok, law7_of (le_of pk_aw12) (fun _ => rfl) (by kernel_rfl) hd hv hv2 (run7_2 n)⟩
  | 3, hd, hv2 => exact ⟨_, m_mp3_ok, law7_of (le_of pk_mp3) (fun _ => rfl) (by kernel_rfl) hd hv hv2 (run7_3 n)⟩
  | 4, hd, hv2 => exact ⟨_, m_mp4_ok, law7_far h14_4 rfl (fun _ => rfl) o19_4 (pre7_4 _ n) (rg7_4 n) (by decide) hd hv hv2⟩
  | 5, hd, hv2 => exact ⟨_, m_mp5_ok, law7_far h14_5 rfl (fun _ => rfl) o19_5 (pre7_5 _ n) (rg7_5 n) (by decide) hd hv hv2⟩
  | d + 6, hd, _ => exact absurd hd (by omega)
end Go.Proofs
