/- the words of a text. Part of the proof of girandolelaw08.FlatClocks. -/
import Derived.Test.YtglacbfdbfhmfaaDoorCur
set_option linter.unusedVariables false
set_option linter.unusedSimpArgs false
set_option maxRecDepth 100000
namespace Go.Proofs
open Go Go.Abs

/-- a call is its code -/
theorem begin_ {M : Memo} {f : FuncId} {z : FZ} {args : List AV} {H : Heap} {r : CRes} (hM : M f args = none) (hz : tget tab f = some z) (hl : Nat.ble (lenF args) 512 = true)
    (hx : finZ CC f (lenF H) z (z.sh (orc CC M) (envOf args 0 env0) [] { heap := H, esc := lenF H }) = some r) : orc CC M f args H = some r := by
  refine orc_step cc_mask (T := tget tab) tab_ok hM ?_
  rw [hz]
  show cond (Nat.ble (lenF args) 512) _ none = _
  rw [hl]
  exact hx

theorem cc9 : CC.P.underlying 9 = some .string := by kernel_rfl
theorem len_str (s : List Nat) : lenV CC 9 (.str s) = some (.int .i64 (s.length : Int)) := by rw [lenV_eq]; simp [lenAV, cc9]
theorem idx_str {s : List Nat} {i b : Nat} (h : s[i]? = some b) : indexAV CC 9 (.str s) (.int .i64 (i : Int)) = some (.int .u8 (b : Int)) := by
  simp [indexAV, asNat, cc9, h]
theorem sl_from {s : List Nat} {i : Nat} (h : i ≤ s.length) : sliceAV CC 9 (.str s) (some (.int .i64 (i : Int))) none none = some (.str (s.drop i)) := by
  simp [sliceAV, boundAV, asNat, cc9, h]
theorem sl_to {s : List Nat} {i : Nat} (h : i ≤ s.length) : sliceAV CC 9 (.str s) none (some (.int .i64 (i : Int))) none = some (.str (s.take i)) := by
  simp [sliceAV, boundAV, asNat, cc9, h]
theorem sl_part {s : List Nat} {i j : Nat} (h : i ≤ j) (hj : j ≤ s.length) : sliceAV CC 9 (.str s) (some (.int .i64 (i : Int))) (some (.int .i64 (j : Int))) none = some (.str ((s.take j).drop i)) := by
  simp [sliceAV, boundAV, asNat, cc9, h, hj]

def isL (b : Nat) : Bool := (Nat.ble 97 b && Nat.ble b 122) || ((Nat.ble 65 b && Nat.ble b 90) || Nat.beq b 95)
def isD (b : Nat) : Bool := Nat.ble 48 b && Nat.ble b 57

theorem ci (a b : Nat) : decide ((a : Int) ≤ (b : Int)) = Nat.ble a b := by rw [nble]; simp
theorem cie (a b : Nat) : decide ((a : Int) = (b : Int)) = Nat.beq a b := by rw [nbeq, Bool.eq_iff_iff]; simp; omega

theorem letter_ok {M : Memo} (hM : ∀ a, M 54 a = none) (b : Nat) (H : Heap) : orc CC M 54 [.int .u8 (b : Int)] H = some (.ret (.bool (isL b)) H (lenF H)) := by
  refine begin_ (z := z54) (hM _) (by kernel_rfl) rfl ?_
  have e0 : (envOf [.int .u8 (b : Int)] 0 env0).a.a.a = .int .u8 (b : Int) := rfl
  generalize envOf [.int .u8 (b : Int)] 0 env0 = R at e0
  have h1 : decide ((97 : Int) ≤ (b : Int)) = Nat.ble 97 b := ci 97 b
  have h2 : decide ((b : Int) ≤ 122) = Nat.ble b 122 := ci b 122
  have h3 : decide ((65 : Int) ≤ (b : Int)) = Nat.ble 65 b := ci 65 b
  have h4 : decide ((b : Int) ≤ 90) = Nat.ble b 90 := ci b 90
  have h5 : decide ((b : Int) = 95) = Nat.beq b 95 := cie b 95
  unfold isL
  cases c1 : Nat.ble 97 b <;> cases c2 : Nat.ble b 122 <;> cases c3 : Nat.ble 65 b <;> cases c4 : Nat.ble b 90 <;> cases c5 : Nat.beq b 95 <;>
    rw [c1] at h1 <;> rw [c2] at h2 <;> rw [c3] at h3 <;> rw [c4] at h4 <;> rw [c5] at h5 <;>
    simp only [z54, q54_0, q54_1, SIM, ST0, e0, h1, h2, h3, h4, h5, Bool.or_false]

theorem digit_ok {M : Memo} (hM : ∀ a, M 56 a = none) (b : Nat) (H : Heap) : orc CC M 56 [.int .u8 (b : Int)] H = some (.ret (.bool (isD b)) H (lenF H)) := by
  refine begin_ (z := z56) (hM _) (by kernel_rfl) rfl ?_
  have e0 : (envOf [.int .u8 (b : Int)] 0 env0).a.a.a = .int .u8 (b : Int) := rfl
  generalize envOf [.int .u8 (b : Int)] 0 env0 = R at e0
  have h1 : decide ((48 : Int) ≤ (b : Int)) = Nat.ble 48 b := ci 48 b
  have h2 : decide ((b : Int) ≤ 57) = Nat.ble b 57 := ci b 57
  unfold isD
  cases c1 : Nat.ble 48 b <;> cases c2 : Nat.ble b 57 <;>
    rw [c1] at h1 <;> rw [c2] at h2 <;>
    simp only [z56, q56_0, q56_1, SIM, ST0, e0, h1, h2, Bool.or_false]

theorem letdig_ok {M : Memo} (hM : ∀ a, M 54 a = none) (hM' : ∀ a, M 56 a = none) (hM2 : ∀ a, M 69 a = none) (b : Nat) (H : Heap) : orc CC M 69 [.int .u8 (b : Int)] H = some (.ret (.bool (isL b || isD b)) H (lenF H)) := by
  refine begin_ (z := z69) (hM2 _) (by kernel_rfl) rfl ?_
  have e0 : (envOf [.int .u8 (b : Int)] 0 env0).a.a.a = .int .u8 (b : Int) := rfl
  generalize envOf [.int .u8 (b : Int)] 0 env0 = R at e0
  have h1 := letter_ok hM b H
  have h2 := digit_ok hM' b H
  cases c1 : isL b <;> cases c2 : isD b <;> rw [c1] at h1 <;> rw [c2] at h2 <;>
    simp only [z69, q69_0, q69_1, SIM, ST0, e0, h1, h2, Bool.or_false]

theorem ibyte_ok {M : Memo} (hM : ∀ a, M 52 a = none) (hM' : ∀ a, M 66 a = none) {b : Nat} (hb : b < 256) (t : List Nat) (H : Heap) : orc CC M 52 [.str t, .int .u8 (b : Int)] H = some (.ret (.int .i64 (indexByte b t 0)) H (lenF H)) := by
  have h1 : orc CC M 66 [.str t, .int .u8 (b : Int)] H = some (.ret (.int .i64 (indexByte b t 0)) H (lenF H)) := by
    refine begin_ (z := z66) (hM' _) (by kernel_rfl) rfl ?_
    have e0 : (envOf [.str t, .int .u8 (b : Int)] 0 env0).a.a.a = .str t := rfl
    have e1 : (envOf [.str t, .int .u8 (b : Int)] 0 env0).a.a.b = .int .u8 (b : Int) := rfl
    generalize envOf [.str t, .int .u8 (b : Int)] 0 env0 = R at e0 e1
    simp only [z66, q66_0, q66_1, SIM, ST0, e0, e1, ibs_u hb]
  refine begin_ (z := z52) (hM _) (by kernel_rfl) rfl ?_
  have e0 : (envOf [.str t, .int .u8 (b : Int)] 0 env0).a.a.a = .str t := rfl
  have e1 : (envOf [.str t, .int .u8 (b : Int)] 0 env0).a.a.b = .int .u8 (b : Int) := rfl
  generalize envOf [.str t, .int .u8 (b : Int)] 0 env0 = R at e0 e1
  simp only [z52, q52_0, q52_1, SIM, ST0, e0, e1, h1]

/-- does a text begin so? -/
def isPre : List Nat → List Nat → Bool
  | [], _ => true
  | _ :: _, [] => false
  | a :: r, b :: s => cond (Nat.beq a b) (isPre r s) false

theorem isPre_eq : ∀ (p s : List Nat), isPre p s = (decide (p.length ≤ s.length) && strEq (s.take p.length) p)
  | [], s => by simp [isPre, strEq]
  | a :: r, [] => by simp [isPre]
  | a :: r, b :: s => by
    simp only [isPre, isPre_eq r s, List.length_cons, List.take_succ_cons, strEq]
    have h1 : decide (r.length + 1 ≤ s.length + 1) = decide (r.length ≤ s.length) := by simp
    rw [h1, nbeq, nbeq]
    by_cases h : a = b
    · simp [h]
    · simp [h, Ne.symm h]

theorem pre_has {M : Memo} (hM : ∀ a, M 53 a = none) (hM' : ∀ a, M 67 a = none) (s p : List Nat) (H : Heap) : orc CC M 53 [.str s, .str p] H = some (.ret (.bool (isPre p s)) H (lenF H)) := by
  have h1 : orc CC M 67 [.str s, .str p] H = some (.ret (.bool (isPre p s)) H (lenF H)) := by
    refine begin_ (z := z67) (hM' _) (by kernel_rfl) rfl ?_
    have e0 : (envOf [.str s, .str p] 0 env0).a.a.a = .str s := rfl
    have e1 : (envOf [.str s, .str p] 0 env0).a.a.b = .str p := rfl
    generalize envOf [.str s, .str p] 0 env0 = R at e0 e1
    rw [isPre_eq]
    by_cases hl : p.length ≤ s.length
    · have h2 : decide ((p.length : Int) ≤ (s.length : Int)) = true := by simp [hl]
      have h3 := sl_to hl
      simp only [z67, q67_0, q67_1, SIM, ST0, e0, e1, len_str, h2, h3, hl]
    · have h2 : decide ((p.length : Int) ≤ (s.length : Int)) = false := by simp; omega
      simp only [z67, q67_0, q67_1, SIM, ST0, e0, e1, len_str, h2, hl]
  refine begin_ (z := z53) (hM _) (by kernel_rfl) rfl ?_
  have e0 : (envOf [.str s, .str p] 0 env0).a.a.a = .str s := rfl
  have e1 : (envOf [.str s, .str p] 0 env0).a.a.b = .str p := rfl
  generalize envOf [.str s, .str p] 0 env0 = R at e0 e1
  simp only [z53, q53_0, q53_1, SIM, ST0, e0, e1, h1]
end Go.Proofs
set_option maxRecDepth 100000
namespace Go.Proofs
open Go Go.Abs

/-- a reader of a text -/
abbrev lexO (s : List Nat) (i : Nat) : AObj := .cells [.str s, .int .i64 (i : Int)]

theorem setF_self {α : Type} {l : List α} {n : Nat} {o : α} (h : getF l n = some o) : setF l n o = l := by
  have hl := getF_lt h
  rw [getF_eq] at h
  rw [setF_eq]
  apply List.ext_getElem?
  intro i
  rw [List.getElem?_set]
  by_cases hi : n = i
  · subst hi; simp only [if_true, hl, h]
  · simp [hi]

theorem drop_at {s : List Nat} {j : Nat} (h : j < s.length) : s.drop j = s[j] :: s.drop (j + 1) := List.drop_eq_getElem_cons h

theorem tb1 : Nat.testBit 2097151 19 = true := by decide
theorem tb2 : Nat.testBit 2097151 15 = true := by decide
theorem tb3 : Nat.testBit 2097151 7 = true := by decide
theorem tb4 : Nat.testBit 2097151 3 = true := by decide

theorem run_loop {M : Memo} {g : Nat} {fv : AV} {p : Nat → Bool} (hcv : ∀ x s, callvV CC fv [x] s = some (.call g [x])) (hg : ∀ (b : Nat) H, orc CC M g [.int .u8 (b : Int)] H = some (.ret (.bool (p b)) H (lenF H)))
    {s : List Nat} (hs : s.length ≤ 4000) {n : Nat} : ∀ (d j : Nat), d + j = s.length → ∀ (fu : Nat), d < fu → ∀ (r : RG) (H : Heap), r.a.a.a = .ptr n 0 → r.a.a.b = fv → getF H n = some (lexO s j) → ∀ e, min e (lenF H) = e →
    ∃ r', loopN (q68_4 (orc CC M)) fu r [] ⟨H, e⟩ = some (.exit 0, r', [], ⟨setF H n (lexO s (j + ((s.drop j).takeWhile p).length)), e⟩) ∧ r'.a.a.a = .ptr n 0 ∧ r'.a.a.f = r.a.a.f := by
  intro d
  induction d with
  | zero =>
    intro j hj fu hfu r H h1 h2 hg' e he
    obtain ⟨fu', rfl⟩ : ∃ f, fu = f + 1 := ⟨fu - 1, by omega⟩
    have hjl : j = s.length := by omega
    subst hjl
    have hc : decide ((s.length : Int) < (s.length : Int)) = false := by simp
    have hw : ((s.drop s.length).takeWhile p).length = 0 := by simp
    rw [hw]
    simp only [loopN, q68_4, q68_2, SIM, ST0, ST1, h1, h2, hg', len_str, hc, setF_self hg']
    exact ⟨_, rfl, h1, rfl⟩
  | succ d ih =>
    intro j hj fu hfu r H h1 h2 hg' e he
    obtain ⟨fu', rfl⟩ : ∃ f, fu = f + 1 := ⟨fu - 1, by omega⟩
    have hlt : j < s.length := by omega
    have hc : decide ((j : Int) < (s.length : Int)) = true := by simp; omega
    have hidx := idx_str (s := s) (i := j) (b := s[j]) (by simp [hlt])
    have ha : addF (j : Int) 1 = ((j + 1 : Nat) : Int) := addF_i j 1 (by unfold natMax; omega)
    rw [drop_at hlt]
    have hpb := hg s[j]
    cases hp : p s[j] with
    | false =>
      rw [hp] at hpb
      have hw : ((s[j] :: s.drop (j + 1)).takeWhile p).length = 0 := by simp only [List.takeWhile_cons, hp, if_true, if_false, Bool.false_eq_true, List.length_cons, List.length_nil]
      rw [hw]
      simp only [loopN, q68_4, q68_2, SIM, ST0, ST1, h1, h2, hg', len_str, hc, hidx, hcv, hpb, he, tb1, tb2, tb3, tb4, setF_self hg']
      exact ⟨_, rfl, h1, rfl⟩
    | true =>
      rw [hp] at hpb
      have hw : ((s[j] :: s.drop (j + 1)).takeWhile p).length = ((s.drop (j + 1)).takeWhile p).length + 1 := by simp only [List.takeWhile_cons, hp, if_true, if_false, Bool.false_eq_true, List.length_cons, List.length_nil]
      rw [hw]
      simp only [loopN, q68_4, q68_2, q68_3, SIM, ST0, ST1, h1, h2, hg', len_str, hc, hidx, hcv, hpb, he, tb1, tb2, tb3, tb4, ha]
      have key := fun r h1 h2 => ih (j + 1) (by omega) fu' (by omega) r (setF H n (lexO s (j + 1))) h1 h2 (getF_set hg' _) e (by rw [lenF_set]; exact he)
      simp only [setF_ss, show j + 1 + ((s.drop (j + 1)).takeWhile p).length = j + (((s.drop (j + 1)).takeWhile p).length + 1) by omega] at key
      refine key _ ?_ ?_
      · first | exact h1 | rfl
      · first | exact h2 | rfl

theorem run_ok {M : Memo} (hM : ∀ a, M 68 a = none) {g : Nat} {fv : AV} {p : Nat → Bool} (hcv : ∀ x s, callvV CC fv [x] s = some (.call g [x])) (hg : ∀ (b : Nat) H, orc CC M g [.int .u8 (b : Int)] H = some (.ret (.bool (p b)) H (lenF H)))
    {s : List Nat} (hs : s.length ≤ 4000) {n j : Nat} (hj : j ≤ s.length) {H : Heap} (hn : getF H n = some (lexO s j)) :
    orc CC M 68 [.ptr n 0, fv] H = some (.ret (.str ((s.drop j).takeWhile p)) (setF H n (lexO s (j + ((s.drop j).takeWhile p).length))) (lenF H)) := by
  refine begin_ (z := z68) (hM _) (by kernel_rfl) rfl ?_
  have e0 : (envOf [.ptr n 0, fv] 0 env0).a.a.a = .ptr n 0 := rfl
  have e1 : (envOf [.ptr n 0, fv] 0 env0).a.a.b = fv := rfl
  generalize envOf [.ptr n 0, fv] 0 env0 = R at e0 e1
  obtain ⟨f, hf⟩ := sk (P := fun r => r.a.a.a = .ptr n 0 ∧ r.a.a.b = fv)
    fun r hr => run_loop (M := M) hcv hg hs (s.length - j) j (by omega) 100000 (by omega) r H hr.1 hr.2 hn (lenF H) (Nat.min_self _)
  have hf1 := fun r h => (hf r h).1
  have hf2 := fun r h => (hf r h).2.1
  have hf3 := fun r h => (hf r h).2.2
  clear hf
  have hk : ((s.drop j).takeWhile p).length ≤ s.length - j := by
    have := (List.takeWhile_sublist p (l := s.drop j)).length_le
    simpa using this
  have hp := sl_part (s := s) (i := j) (j := j + ((s.drop j).takeWhile p).length) (by omega) (by omega)
  have ht : (s.take (j + ((s.drop j).takeWhile p).length)).drop j = (s.drop j).takeWhile p := by
    rw [List.drop_take, Nat.add_sub_cancel_left]
    have := List.takeWhile_prefix p (l := s.drop j)
    exact (List.prefix_iff_eq_take.1 this).symm
  rw [ht] at hp
  simp only [z68, q68_0, q68_1, q68_5, SIM, ST0, e0, e1, hn, hf1, hf2, hf3, and_self, getF_set hn, hp]
end Go.Proofs
set_option maxRecDepth 100000
namespace Go.Proofs
open Go Go.Abs

theorem kept_loop {M : Memo} {t : List Nat} {ts : List AV} {l : Lin} (hts : ts.length < 1000) : ∀ (d j : Nat), d + j = ts.length → ∀ (fu : Nat), d < fu → ∀ (r : RG) (b : Bool),
    r.a.a.f = .sl 1 ts l → r.a.a.g = .int .i64 (ts.length : Int) → r.a.a.h = .int .i64 (j : Int) → r.a.a.a = .str t → anyS t (ts.drop j) = some b → ∀ s,
    ∃ r', loopN (q70_7 (orc CC M)) fu r [] s = some (cond b .ret (.exit 0), r', [], s) ∧ (b = true → r'.a.a.c = .bool b) := by
  intro d
  induction d with
  | zero =>
    intro j hj fu hfu r b h1 h2 h3 h4 hb s
    obtain ⟨fu', rfl⟩ : ∃ f, fu = f + 1 := ⟨fu - 1, by omega⟩
    have hjl : j = ts.length := by omega
    subst hjl
    rw [List.drop_length] at hb
    simp only [anyS, Option.some.injEq] at hb
    subst hb
    simp only [loopN, q70_7, q70_2, SIM, ST0, h2, h3, Int.lt_irrefl]
    exact ⟨_, rfl, fun h => by cases h⟩
  | succ d ih =>
    intro j hj fu hfu r b h1 h2 h3 h4 hb e
    obtain ⟨fu', rfl⟩ : ∃ f, fu = f + 1 := ⟨fu - 1, by omega⟩
    have hlt : j < ts.length := by omega
    have hd : ts.drop j = ts[j] :: ts.drop (j + 1) := List.drop_eq_getElem_cons hlt
    rw [hd] at hb
    cases hv : ts[j] with
    | str s =>
      rw [hv] at hb
      simp only [anyS] at hb
      have hi : getF ts j = some (.str s) := by rw [getF_eq, List.getElem?_eq_getElem hlt, hv]
      have hc : decide ((j : Int) < (ts.length : Int)) = true := by simp; omega
      have ha : addF (j : Int) 1 = ((j + 1 : Nat) : Int) := addF_i j 1 (by unfold natMax; omega)
      cases hs : strEq s t with
      | true =>
        rw [hs] at hb
        simp only [cond_true, Option.some.injEq] at hb
        subst hb
        simp only [loopN, q70_7, q70_2, q70_3, q70_4, q70_5, q70_6, SIM, ST0, h1, h2, h3, h4, hc, iasV_i (sz := 1) (lin := l) hi, hs]
        exact ⟨_, rfl, fun _ => rfl⟩
      | false =>
        rw [hs] at hb
        simp only [cond_false] at hb
        simp only [loopN, q70_7, q70_2, q70_3, q70_4, q70_5, q70_6, SIM, ST0, h1, h2, h3, h4, hc, iasV_i (sz := 1) (lin := l) hi, hs, ha]
        exact ih (j + 1) (by omega) fu' (by omega) _ b rfl rfl rfl rfl hb e
    | _ => rw [hv] at hb; simp [anyS] at hb

theorem kept_ok {M : Memo} (hM : ∀ a, M 70 a = none) {ts : List AV} (hW : M 77 [] = some (.sl 1 ts .dead)) (hts : ts.length < 1000) {t : List Nat} {b : Bool} (hb : anyS t ts = some b) (H : Heap) :
    orc CC M 70 [.str t] H = some (.ret (.bool b) H (lenF H)) := by
  refine begin_ (z := z70) (hM _) (by kernel_rfl) rfl ?_
  have e0 : (envOf [.str t] 0 env0).a.a.a = .str t := rfl
  generalize envOf [.str t] 0 env0 = R at e0
  have hw := fun h => orc_memo (C := CC) (h := h) hW
  simp only [← lenF_eq] at hw
  obtain ⟨f, hf⟩ := sk (P := fun r => r.a.a.f = .sl 1 ts .dead ∧ r.a.a.g = .int .i64 (ts.length : Int) ∧ r.a.a.h = .int .i64 0 ∧ r.a.a.a = .str t)
    fun r hr => kept_loop (M := M) hts ts.length 0 (by omega) 100000 (by omega) r b hr.1 hr.2.1 hr.2.2.1 hr.2.2.2 hb ⟨H, lenF H⟩
  have hf1 := fun r h => (hf r h).1
  have hf2 := fun r h => (hf r h).2
  clear hf
  cases b <;>
    simp only [z70, q70_0, q70_1, q70_8, SIM, ST0, e0, hw, len_sl cc26, hf1, hf2, and_self]

theorem bt65_2 (a b : Int) : buildAV CC 50 [(0, .int .i64 a), (1, .int .i64 b)] = some (tokV a b [] 0) := by kernel_rfl
theorem bt65_0 : buildAV CC 50 [] = some (tokV 0 0 [] 0) := by kernel_rfl
theorem bt65_3 (a b : Int) (t : List Nat) : buildAV CC 50 [(0, .int .i64 a), (1, .int .i64 b), (2, .str t)] = some (tokV a b t 0) := by kernel_rfl
theorem cv143 (x : AV) (s : St) : callvV CC (.func (.func 69) [] []) [x] s = some (.call 69 [x]) := by kernel_rfl
theorem cv108 (x : AV) (s : St) : callvV CC (.func (.func 56) [] []) [x] s = some (.call 56 [x]) := by kernel_rfl

/-- of what is not known ahead: nothing of the lexer's -/
structure LexM (M : Memo) (ts ss : List AV) : Prop where
  m72 : ∀ a, M 38 a = none
  m73 : ∀ a, M 39 a = none
  m104 : ∀ a, M 52 a = none
  m105 : ∀ a, M 53 a = none
  m106 : ∀ a, M 54 a = none
  m107 : ∀ a, M 55 a = none
  m108 : ∀ a, M 56 a = none
  m109 : ∀ a, M 57 a = none
  m110 : ∀ a, M 58 a = none
  m140 : ∀ a, M 66 a = none
  m141 : ∀ a, M 67 a = none
  m142 : ∀ a, M 68 a = none
  m143 : ∀ a, M 69 a = none
  m144 : ∀ a, M 70 a = none
  w : M 77 [] = some (.sl 1 ts .dead)
  wl : ts.length < 1000
  s : M 71 [] = some (.sl 1 ss .dead)
  sl : ss.length < 1000

def isLD (b : Nat) : Bool := isL b || isD b

theorem name_lex {M : Memo} {ts ss : List AV} (m : LexM M ts ss) {s : List Nat} (hs : s.length ≤ 4000) {n j : Nat} (hj : j ≤ s.length) {H : Heap} (hn : getF H n = some (lexO s j)) {b : Bool} (hb : anyS ((s.drop j).takeWhile isLD) ts = some b) :
    orc CC M 55 [.ptr n 0] H = some (.ret (cond b (.tuple [tokV 3 j ((s.drop j).takeWhile isLD) 0, .int .i64 0]) (cond (decide (((s.drop j).takeWhile isLD).length ≤ 30)) (.tuple [tokV 1 j ((s.drop j).takeWhile isLD) 0, .int .i64 0]) (.tuple [tokV 0 0 [] 0, .int .i64 3])))
      (setF H n (lexO s (j + ((s.drop j).takeWhile isLD).length))) (lenF H)) := by
  refine begin_ (z := z55) (m.m107 _) (by kernel_rfl) rfl ?_
  have e0 : (envOf [.ptr n 0] 0 env0).a.a.a = .ptr n 0 := rfl
  generalize envOf [.ptr n 0] 0 env0 = R at e0
  have hr := fun L => run_ok m.m142 (p := isLD) cv143 (fun b H => letdig_ok m.m106 m.m108 m.m143 b H) hs hj (H := H ++ L) (getF_old hn L)
  have hk := kept_ok m.m144 m.w m.wl hb
  have hlen : decide ((30 : Int) < (((s.drop j).takeWhile isLD).length : Int)) = !decide (((s.drop j).takeWhile isLD).length ≤ 30) := by
    rw [Bool.eq_iff_iff]; simp; omega
  generalize (s.drop j).takeWhile isLD = t at hr hk hlen
  cases b with
  | true => simp only [z55, q55_0, q55_1, q55_2, q55_3, q55_4, q55_5, q55_6, q55_7, SIM, ST0, e0, getF_old hn, setF_old hn, bt65_2, bt65_0, hr, hk, Nat.reduceAdd, Nat.reduceLeDiff, len_str]
  | false =>
    cases hl : decide (t.length ≤ 30) <;> rw [hl] at hlen <;>
    simp only [z55, q55_0, q55_1, q55_2, q55_3, q55_4, q55_5, q55_6, q55_7, SIM, ST0, e0, getF_old hn, setF_old hn, bt65_2, bt65_0, hr, hk, Nat.reduceAdd, Nat.reduceLeDiff, len_str, hlen]
end Go.Proofs
set_option maxRecDepth 100000
namespace Go.Proofs
open Go Go.Abs

/-- the first of some that a text begins with -/
def fstPre (t : List Nat) : List AV → Option (Option (List Nat))
  | [] => some none
  | .str s :: r => cond (isPre s t) (some (some s)) (fstPre t r)
  | _ => none

theorem isPre_len : ∀ (p s : List Nat), isPre p s = true → p.length ≤ s.length := by
  intro p s h
  rw [isPre_eq, Bool.and_eq_true, decide_eq_true_eq] at h
  exact h.1

def signR (j : Nat) : Option (List Nat) → AV
  | none => .tuple [tokV 0 0 [] 0, .int .i64 1]
  | some t => .tuple [tokV 4 j t 0, .int .i64 0]
def signJ (j : Nat) : Option (List Nat) → Nat
  | none => j
  | some t => j + t.length
def sgX (j : Nat) : Option (List Nat) → AExit
  | none => .exit 0
  | some _ => .ret
def sgO (j : Nat) : Option (List Nat) → AObj
  | none => .cells [.int .i64 0, .int .i64 0, .str [], .int .u64 0]
  | some t => .cells [.int .i64 4, .int .i64 j, .str t, .int .u64 0]

theorem subF_add (i j : Nat) (h : i + j ≤ natMax) : subF ((i + j : Nat) : Int) (j : Int) = (i : Int) := by
  rw [subF_eq, show ((i + j : Nat) : Int) - (j : Int) = ((i : Nat) : Int) by omega]
  exact wrap_nat (by omega)

theorem sign_loop {M : Memo} {ts ss : List AV} (m : LexM M ts ss) {s : List Nat} (hs : s.length ≤ 4000) {n j : Nat} (hj : j ≤ s.length) {H : Heap} (hn : getF H n = some (lexO s j)) : ∀ (d i : Nat), d + i = ss.length → ∀ (fu : Nat), d < fu → ∀ (r : RG) (x : Option (List Nat)),
    r.a.a.a = .ptr n 0 → r.a.a.g = .sl 1 ss .dead → r.a.a.h = .int .i64 (ss.length : Int) → r.a.b.a = .int .i64 (i : Int) → r.a.a.c = .ptr (lenF H) 0 → fstPre (s.drop j) (ss.drop i) = some x →
    ∃ r', loopN (q58_8 (orc CC M)) fu r [] ⟨H ++ [sgO j none], lenF H⟩ = some (sgX j x, r', [], ⟨setF H n (lexO s (signJ j x)) ++ [sgO j x], lenF H⟩) ∧ r'.a.a.c = .ptr (lenF H) 0 ∧ (x.isSome = true → r'.a.a.d = .int .i64 0) := by
  intro d
  induction d with
  | zero =>
    intro i hi fu hfu r x h0 h1 h2 h3 h4 hx
    obtain ⟨fu', rfl⟩ : ∃ f, fu = f + 1 := ⟨fu - 1, by omega⟩
    have hil : i = ss.length := by omega
    subst hil
    rw [List.drop_length] at hx
    simp only [fstPre, Option.some.injEq] at hx
    subst hx
    simp only [loopN, q58_8, q58_2, SIM, ST0, h2, h3, Int.lt_irrefl, sgX, sgO, signJ, setF_self hn]
    exact ⟨_, rfl, h4, fun h => by cases h⟩
  | succ d ih =>
    intro i hi fu hfu r x h0 h1 h2 h3 h4 hx
    obtain ⟨fu', rfl⟩ : ∃ f, fu = f + 1 := ⟨fu - 1, by omega⟩
    have hlt : i < ss.length := by omega
    have hd : ss.drop i = ss[i] :: ss.drop (i + 1) := List.drop_eq_getElem_cons hlt
    rw [hd] at hx
    have hsl := m.sl
    cases hv : ss[i] with
    | str w =>
      rw [hv] at hx
      simp only [fstPre] at hx
      have hi' : getF ss i = some (.str w) := by rw [getF_eq, List.getElem?_eq_getElem hlt, hv]
      have hc : decide ((i : Int) < (ss.length : Int)) = true := by simp; omega
      have ha : addF (i : Int) 1 = ((i + 1 : Nat) : Int) := addF_i i 1 (by unfold natMax; omega)
      have hf := sl_from (s := s) hj
      have hp := pre_has m.m105 m.m141 (s.drop j) w
      cases hs' : isPre w (s.drop j) with
      | true =>
        rw [hs'] at hx hp
        simp only [cond_true, Option.some.injEq] at hx
        subst hx
        have hwl : w.length ≤ 4000 := by
          have := isPre_len _ _ hs'
          simp at this; omega
        have ha2 : addF (j : Int) (w.length : Int) = ((j + w.length : Nat) : Int) := addF_i j w.length (by unfold natMax; omega)
        have ha3 : subF ((j + w.length : Nat) : Int) (w.length : Int) = (j : Int) := subF_add j w.length (by unfold natMax; omega)
        simp only [loopN, q58_8, q58_2, q58_3, q58_4, q58_5, q58_6, q58_7, SIM, ST0, h0, h1, h2, h3, h4, hc, iasV_i (sz := 1) (lin := .dead) hi', hp, getF_old hn, setF_old hn, getF_old (getF_set hn _), hf, len_str, ha2, ha3, bt65_3, sgX, sgO, signJ, Nat.reduceAdd, Nat.reduceLeDiff]
        exact ⟨_, rfl, rfl, fun _ => rfl⟩
      | false =>
        rw [hs'] at hx hp
        simp only [cond_false] at hx
        simp only [loopN, q58_8, q58_2, q58_3, q58_4, q58_5, q58_6, q58_7, SIM, ST0, h0, h1, h2, h3, h4, hc, iasV_i (sz := 1) (lin := .dead) hi', hp, getF_old hn, hf, ha, sgO]
        exact ih (i + 1) (by omega) fu' (by omega) _ x rfl rfl rfl rfl rfl hx
    | _ => rw [hv] at hx; simp [fstPre] at hx

theorem sign_lex {M : Memo} {ts ss : List AV} (m : LexM M ts ss) {s : List Nat} (hs : s.length ≤ 4000) {n j : Nat} (hj : j ≤ s.length) {H : Heap} (hn : getF H n = some (lexO s j)) {x : Option (List Nat)} (hx : fstPre (s.drop j) ss = some x) :
    orc CC M 58 [.ptr n 0] H = some (.ret (signR j x) (setF H n (lexO s (signJ j x))) (lenF H)) := by
  refine begin_ (z := z58) (m.m110 _) (by kernel_rfl) rfl ?_
  have e0 : (envOf [.ptr n 0] 0 env0).a.a.a = .ptr n 0 := rfl
  generalize envOf [.ptr n 0] 0 env0 = R at e0
  have hw := fun h => orc_memo (C := CC) (h := h) m.s
  simp only [← lenF_eq] at hw
  obtain ⟨f, hf⟩ := sk (P := fun r => r.a.a.a = .ptr n 0 ∧ r.a.a.g = .sl 1 ss .dead ∧ r.a.a.h = .int .i64 (ss.length : Int) ∧ r.a.b.a = .int .i64 0 ∧ r.a.a.c = .ptr (lenF H) 0)
    fun r hr => sign_loop m hs hj hn ss.length 0 (by omega) 100000 (by have := m.sl; omega) r x hr.1 hr.2.1 hr.2.2.1 hr.2.2.2.1 hr.2.2.2.2 hx
  have hf1 := fun r h => (hf r h).1
  have hf2 := fun r h => (hf r h).2.1
  have hf3 := fun r h => (hf r h).2.2
  clear hf
  cases x <;> simp only [sgO, sgX, Option.isSome] at hf1 hf3 <;>
    simp only [z58, q58_0, q58_1, q58_9, SIM, ST0, e0, hw, len_sl cc26, hf1, hf2, hf3, and_self, bt65_0, signR, signJ, Nat.reduceAdd, Nat.reduceLeDiff]
end Go.Proofs
set_option maxRecDepth 100000
namespace Go.Proofs
open Go Go.Abs

def bytesL (s : List Nat) : List AV := s.map fun (b : Nat) => .int .u8 b
theorem cv_bytes {s : List Nat} (h : s.length ≤ 4000) : convertAV CC 9 23 (.str s) = some (.sl 1 (bytesL s) .frz) := by
  have h1 : CC.P.underlying 23 = some (.slice 5) := by kernel_rfl
  have h2 : isU8 CC 5 = true := by kernel_rfl
  have h3 : s.length ≤ 2 ^ 40 := by omega
  simp [convertAV, cc9, h1, h2, h3, bytesL]
theorem cc24 : CC.P.underlying 23 = some (.slice 5) := by kernel_rfl
theorem get_bytes {s : List Nat} {i b : Nat} (h : s[i]? = some b) : getF (bytesL s) i = some (.int .u8 (b : Int)) := by
  rw [getF_eq]; simp [bytesL, h]
theorem wrapU8 {n : Nat} (h : n < 256) : IntKind.wrap .u8 (n : Int) = (n : Int) := by
  simp [IntKind.wrap, IntKind.bits, IntKind.signed]; omega
theorem wrapU64 {n : Nat} (h : n < 18446744073709551616) : IntKind.wrap .u64 (n : Int) = (n : Int) := by
  simp [IntKind.wrap, IntKind.bits, IntKind.signed]; omega
theorem sub_u8 {b : Nat} (h : 48 ≤ b) (h2 : b < 256) : binV CC .sub 5 true (.int .u8 (b : Int)) (.int .u8 48) = some (.int .u8 ((b - 48 : Nat) : Int)) := by
  show some (AV.int .u8 (IntKind.wrap .u8 ((b : Int) - 48))) = _
  rw [show (b : Int) - 48 = ((b - 48 : Nat) : Int) by omega, wrapU8 (by omega)]
theorem cv_u64 {b : Nat} (h : b < 256) : convertAV CC 5 48 (.int .u8 (b : Int)) = some (.int .u64 (b : Int)) := by
  have h1 : CC.P.underlying 5 = some (.int .u8) := by kernel_rfl
  have h2 : CC.P.underlying 48 = some (.int .u64) := by kernel_rfl
  simp only [convertAV, h1, h2]
  rw [wrapU64 (by omega)]
theorem sub_64 {d : Nat} (h : d ≤ 9) : binV CC .sub 48 true (.int .u64 9223372036854775808) (.int .u64 (d : Int)) = some (.int .u64 ((9223372036854775808 - d : Nat) : Int)) := by
  show some (AV.int .u64 (IntKind.wrap .u64 ((9223372036854775808 : Int) - d))) = _
  rw [show (9223372036854775808 : Int) - d = ((9223372036854775808 - d : Nat) : Int) by omega, wrapU64 (by omega)]
theorem quo_64 {x : Nat} (h : x < 18446744073709551616) : binV CC .quo 48 true (.int .u64 (x : Int)) (.int .u64 10) = some (.int .u64 ((x / 10 : Nat) : Int)) := by
  show (if (10 : Int) = 0 then none else some (AV.int .u64 (IntKind.wrap .u64 ((x : Int).tdiv 10)))) = _
  rw [if_neg (by decide), show ((x : Int).tdiv 10) = ((x / 10 : Nat) : Int) by rw [Int.tdiv_eq_ediv_of_nonneg (by omega)]; omega, wrapU64 (by omega)]
theorem gtr_64 (x y : Nat) : binV CC .gtr 48 false (.int .u64 (x : Int)) (.int .u64 (y : Int)) = some (.bool (decide (y < x))) := by
  show some (AV.bool (decide ((x : Int) > y))) = _
  simp
theorem mul_64 {x : Nat} (h : x ≤ 922337203685477580) : binV CC .mul 48 true (.int .u64 10) (.int .u64 (x : Int)) = some (.int .u64 ((10 * x : Nat) : Int)) := by
  show some (AV.int .u64 (IntKind.wrap .u64 ((10 : Int) * x))) = _
  rw [show (10 : Int) * x = ((10 * x : Nat) : Int) by omega, wrapU64 (by omega)]
theorem add_64 {x y : Nat} (h : x + y < 18446744073709551616) : binV CC .add 48 false (.int .u64 (x : Int)) (.int .u64 (y : Int)) = some (.int .u64 ((x + y : Nat) : Int)) := by
  show some (AV.int .u64 (IntKind.wrap .u64 ((x : Int) + y))) = _
  rw [show (x : Int) + y = ((x + y : Nat) : Int) by omega, wrapU64 h]

/-- a number's value; none: too great -/
def numS : Nat → List Nat → Option Nat
  | acc, [] => some acc
  | acc, b :: r => cond (Nat.ble acc ((9223372036854775808 - (b - 48)) / 10)) (numS (10 * acc + (b - 48)) r) none

def numA : Nat → List Nat → Nat
  | acc, [] => acc
  | acc, b :: r => cond (Nat.ble acc ((9223372036854775808 - (b - 48)) / 10)) (numA (10 * acc + (b - 48)) r) acc
theorem numA_eq : ∀ (l : List Nat) (acc v : Nat), numS acc l = some v → numA acc l = v
  | [], acc, v, h => by simp only [numS, Option.some.injEq] at h; exact h
  | b :: r, acc, v, h => by
    simp only [numS, numA] at h ⊢
    cases hq : Nat.ble acc ((9223372036854775808 - (b - 48)) / 10) with
    | true => rw [hq] at h; exact numA_eq r _ v h
    | false => rw [hq] at h; cases h

def nmX : Option Nat → AExit
  | none => .ret
  | some _ => .exit 0

/-- where a number's loop stands -/
structure NumI (H : Heap) (t : List Nat) (i : Nat) (r : RG) : Prop where
  a3 : r.a.a.c = .ptr (lenF H) 0
  a4 : r.a.a.e = .ptr (lenF H + 1) 0
  l : r.a.d.f = .sl 1 (bytesL t) .frz
  g : r.a.d.g = .int .i64 (t.length : Int)
  h : r.a.d.h = .int .i64 (i : Int)
def nmH (H : Heap) (j : Nat) (t : List Nat) (acc : Nat) : Heap := H ++ [.cells [.int .i64 0, .int .i64 0, .str [], .int .u64 0], .cells [.int .i64 2, .int .i64 j, .str t, .int .u64 acc]]

theorem num_loop {M : Memo} {t : List Nat} (ht : t.length ≤ 4000) (hd : ∀ b ∈ t, 48 ≤ b ∧ b ≤ 57) {H : Heap} {j : Nat} : ∀ (d i : Nat), d + i = t.length → ∀ (fu : Nat), d < fu → ∀ (r : RG) (acc : Nat), acc ≤ 9223372036854775808 → NumI H t i r →
    ∃ r', loopN (q57_13 (orc CC M)) fu r [] ⟨nmH H j t acc, lenF H⟩ = some (nmX (numS acc (t.drop i)), r', [], ⟨nmH H j t (numA acc (t.drop i)), lenF H⟩) ∧ r'.a.a.c = .ptr (lenF H) 0 ∧ r'.a.a.e = .ptr (lenF H + 1) 0 ∧
      (numS acc (t.drop i) = none → r'.a.a.d = .int .i64 3) := by
  intro d
  induction d with
  | zero =>
    intro i hi fu hfu r acc ha hI
    obtain ⟨fu', rfl⟩ : ∃ f, fu = f + 1 := ⟨fu - 1, by omega⟩
    have hil : i = t.length := by omega
    subst hil
    rw [List.drop_length]
    simp only [loopN, q57_13, q57_6, SIM, ST0, ST1, hI.g, hI.h, Int.lt_irrefl, numS, numA, nmX]
    refine ⟨_, rfl, hI.a3, hI.a4, ?_⟩
    intro h; cases h
  | succ d ih =>
    intro i hi fu hfu r acc ha hI
    obtain ⟨fu', rfl⟩ : ∃ f, fu = f + 1 := ⟨fu - 1, by omega⟩
    have hlt : i < t.length := by omega
    have hdr : t.drop i = t[i] :: t.drop (i + 1) := List.drop_eq_getElem_cons hlt
    rw [hdr]
    obtain ⟨hb1, hb2⟩ := hd t[i] (List.getElem_mem hlt)
    have hgb := get_bytes (s := t) (i := i) (b := t[i]) (by simp [hlt])
    have hc : decide ((i : Int) < (t.length : Int)) = true := by simp; omega
    have ha1 : addF (i : Int) 1 = ((i + 1 : Nat) : Int) := addF_i i 1 (by unfold natMax; omega)
    have h1 := sub_u8 (b := t[i]) hb1 (by omega)
    have h2 := cv_u64 (b := t[i] - 48) (by omega)
    have h3 := sub_64 (d := t[i] - 48) (by omega)
    have h4 := quo_64 (x := 9223372036854775808 - (t[i] - 48)) (by omega)
    have h5 := gtr_64 acc ((9223372036854775808 - (t[i] - 48)) / 10)
    have hble : decide ((9223372036854775808 - (t[i] - 48)) / 10 < acc) = !Nat.ble acc ((9223372036854775808 - (t[i] - 48)) / 10) := by
      rw [nble, Bool.eq_iff_iff]; simp
    rw [hble] at h5
    simp only [numS, numA]
    cases hq : Nat.ble acc ((9223372036854775808 - (t[i] - 48)) / 10) with
    | false =>
      rw [hq] at h5
      simp only [loopN, q57_13, q57_6, q57_7, q57_8, q57_9, q57_10, SIM, ST0, ST1, hI.a3, hI.a4, hI.l, hI.g, hI.h, hc, iasV_i (sz := 1) (lin := .frz) hgb, h1, h2, h3, h4, h5, nmH, bt65_0, Nat.reduceAdd, Nat.reduceLeDiff, nmX, getF_app H _ 1, numS]
      exact ⟨_, rfl, rfl, rfl, fun _ => rfl⟩
    | true =>
      rw [hq] at h5
      have hle : acc ≤ (9223372036854775808 - (t[i] - 48)) / 10 := Nat.le_of_ble_eq_true hq
      have h6 := mul_64 (x := acc) (by omega)
      have h7 := add_64 (x := 10 * acc) (y := t[i] - 48) (by omega)
      simp only [loopN, q57_13, q57_6, q57_7, q57_8, q57_9, q57_11, q57_12, SIM, ST0, ST1, hI.a3, hI.a4, hI.l, hI.g, hI.h, hc, iasV_i (sz := 1) (lin := .frz) hgb, h1, h2, h3, h4, h5, h6, h7, nmH, Nat.reduceAdd, Nat.reduceLeDiff, ha1]
      have key := fun r hI' => ih (i + 1) (by omega) fu' (by omega) r (10 * acc + (t[i] - 48)) (by omega) hI'
      simp only [nmH] at key
      refine key _ ?_
      exact ⟨by first | exact hI.a3 | rfl, by first | exact hI.a4 | rfl, by first | exact hI.l | rfl, by first | exact hI.g | rfl, rfl⟩

def numR (j : Nat) (t : List Nat) : AV := match t with
  | [] => .tuple [tokV 0 0 [] 0, .int .i64 1]
  | d0 :: t' => cond (Nat.beq d0 48 && Nat.ble 2 (t'.length + 1)) (.tuple [tokV 0 0 [] 0, .int .i64 1]) (match numS 0 (d0 :: t') with
    | none => .tuple [tokV 0 0 [] 0, .int .i64 3]
    | some v => .tuple [tokV 2 j (d0 :: t') v, .int .i64 0])

theorem isD_le {b : Nat} (h : isD b = true) : 48 ≤ b ∧ b ≤ 57 := by
  simp only [isD, Bool.and_eq_true, Nat.ble_eq] at h; exact h
theorem takeWhile_all {p : Nat → Bool} : ∀ (l : List Nat), ∀ b ∈ l.takeWhile p, p b = true
  | [], b, h => by simp at h
  | a :: l, b, h => by
    rw [List.takeWhile_cons] at h
    split at h
    · rename_i hp
      rcases List.mem_cons.1 h with rfl | h
      · exact hp
      · exact takeWhile_all l b h
    · simp at h

theorem num_lex {M : Memo} {ts ss : List AV} (m : LexM M ts ss) {s : List Nat} (hs : s.length ≤ 4000) {n j : Nat} (hj : j ≤ s.length) {H : Heap} (hn : getF H n = some (lexO s j)) {d0 : Nat} {t' : List Nat} (ht : (s.drop j).takeWhile isD = d0 :: t') :
    orc CC M 57 [.ptr n 0] H = some (.ret (numR j (d0 :: t')) (setF H n (lexO s (j + (d0 :: t').length))) (lenF H)) := by
  refine begin_ (z := z57) (m.m109 _) (by kernel_rfl) rfl ?_
  have e0 : (envOf [.ptr n 0] 0 env0).a.a.a = .ptr n 0 := rfl
  generalize envOf [.ptr n 0] 0 env0 = R at e0
  have hr := fun L => run_ok m.m142 (p := isD) cv108 (fun b H => digit_ok m.m108 b H) hs hj (H := H ++ L) (getF_old hn L)
  rw [ht] at hr
  have hall : ∀ b ∈ d0 :: t', 48 ≤ b ∧ b ≤ 57 := fun b hb => isD_le (takeWhile_all (s.drop j) b (by rw [ht]; exact hb))
  have hlen : (d0 :: t').length ≤ 4000 := by
    have := (List.takeWhile_sublist isD (l := s.drop j)).length_le
    rw [ht, List.length_drop] at this; omega
  have hidx := idx_str (s := d0 :: t') (i := 0) (b := d0) rfl
  have hidx' : indexAV CC 9 (.str (d0 :: t')) (.int .i64 0) = some (.int .u8 (d0 : Int)) := hidx
  have c1 : decide ((d0 : Int) = 48) = Nat.beq d0 48 := cie d0 48
  have c2 : decide ((1 : Int) < ((d0 :: t').length : Int)) = Nat.ble 2 (t'.length + 1) := by rw [nble, Bool.eq_iff_iff]; simp; omega
  have hcv := cv_bytes hlen
  have hlb : (bytesL (d0 :: t')).length = (d0 :: t').length := by simp [bytesL]
  obtain ⟨f, hf⟩ := sk (P := NumI (setF H n (lexO s (j + (d0 :: t').length))) (d0 :: t') 0) fun r hr => num_loop (M := M) hlen hall (H := setF H n (lexO s (j + (d0 :: t').length))) (j := j) (d0 :: t').length 0 (by omega) 100000 (by omega) r 0 (by omega) hr
  have hnum : ∀ r, (r.a.a.c = .ptr (lenF H) 0 ∧ r.a.a.e = .ptr (lenF H + 1) 0 ∧ r.a.d.f = .sl 1 (bytesL (d0 :: t')) .frz ∧ r.a.d.g = .int .i64 ((d0 :: t').length : Int) ∧ r.a.d.h = .int .i64 0) → NumI (setF H n (lexO s (j + (d0 :: t').length))) (d0 :: t') 0 r :=
    fun r ⟨h1, h2, h3, h4, h5⟩ => ⟨by rw [lenF_set]; exact h1, by rw [lenF_set]; exact h2, h3, h4, h5⟩
  have hf := fun r h => hf r (hnum r h)
  simp only [nmH, lenF_set, List.drop_zero, show ((0 : Nat) : Int) = 0 from rfl] at hf
  have hf1 := fun r h => (hf r h).1
  have hf2 := fun r h => (hf r h).2.1
  have hf3 := fun r h => (hf r h).2.2.1
  have hf4 := fun r h => (hf r h).2.2.2
  clear hf
  have hA := numA_eq (d0 :: t') 0
  rw [show numR j (d0 :: t') = cond (Nat.beq d0 48 && Nat.ble 2 (t'.length + 1)) (.tuple [tokV 0 0 [] 0, .int .i64 1]) (match numS 0 (d0 :: t') with
    | none => .tuple [tokV 0 0 [] 0, .int .i64 3]
    | some v => .tuple [tokV 2 j (d0 :: t') v, .int .i64 0]) from rfl]
  generalize htl : (d0 :: t').length = tl at *
  cases b1 : Nat.beq d0 48 <;> rw [b1] at c1 <;> cases b2 : Nat.ble 2 (t'.length + 1) <;> rw [b2] at c2 <;> cases hv : numS 0 (d0 :: t')
  all_goals (first | (have hA' := hA _ hv; rw [hv] at hf1 hf4; rw [hA'] at hf1) | rw [hv] at hf1 hf4)
  all_goals simp only [nmX] at hf1
  all_goals simp only [z57, q57_0, q57_1, q57_2, q57_3, q57_4, q57_5, q57_14, SIM, ST0, ST1, e0, getF_old hn, setF_old hn, bt65_2, bt65_0, hr, hidx', c1, c2, hcv, len_sl cc24, len_str, hlb, htl, hf1, hf2, hf3, hf4, and_self, Nat.reduceAdd, Nat.reduceLeDiff]
end Go.Proofs
set_option maxRecDepth 100000
namespace Go.Proofs
open Go Go.Abs

def isBl (b : Nat) : Bool := Nat.beq b 32 || (Nat.beq b 9 || Nat.beq b 10)
/-- up to a line's end -/
def nlS : List Nat → Nat
  | [] => 0
  | b :: r => cond (Nat.beq b 10) 0 (nlS r + 1)
/-- how many bytes are blanks, and remarks -/
def blS : Nat → List Nat → Nat
  | 0, _ => 0
  | _ + 1, [] => 0
  | k + 1, b :: r => cond (isBl b) (1 + blS k r) (cond (isPre [45, 45] (b :: r)) (nlS (b :: r) + blS k ((b :: r).drop (nlS (b :: r)))) 0)

theorem isBl_eq (b : Nat) : decide ((0 : Int) ≤ indexByte b [32, 9, 10] 0) = isBl b := by
  unfold isBl
  simp only [nbeq]
  by_cases h1 : b = 32
  · subst h1; rfl
  · by_cases h2 : b = 9
    · subst h2; rfl
    · by_cases h3 : b = 10
      · subst h3; rfl
      · have : indexByte b [32, 9, 10] 0 = -1 := by simp [indexByte, Ne.symm h1, Ne.symm h2, Ne.symm h3]
        simp only [this, h1, h2, h3]
        rfl

theorem nl_eq : ∀ (t : List Nat) (i : Nat), (indexByte 10 t i = -1 ∧ nlS t = t.length) ∨ (indexByte 10 t i = ((i + nlS t : Nat) : Int) ∧ nlS t < t.length)
  | [], i => .inl ⟨rfl, rfl⟩
  | b :: r, i => by
    simp only [indexByte, nlS, nbeq]
    by_cases h : b = 10
    · simp [h]
    · simp only [h, if_false, decide_false, cond_false, List.length_cons]
      rcases nl_eq r (i + 1) with ⟨h1, h2⟩ | ⟨h1, h2⟩
      · exact .inl ⟨h1, by omega⟩
      · exact .inr ⟨by rw [h1]; omega, by omega⟩

theorem nl_le (t : List Nat) : nlS t ≤ t.length := by
  rcases nl_eq t 0 with ⟨_, h⟩ | ⟨_, h⟩ <;> omega

theorem nl_pos {t : List Nat} (h : isPre [45, 45] t = true) : 1 ≤ nlS t := by
  match t, h with
  | [], h => simp [isPre] at h
  | a :: r, h =>
    simp only [isPre] at h
    obtain ⟨h1, _⟩ := cond_some' h
    have : 45 = a := Nat.eq_of_beq_eq_true h1
    subst this
    simp [nlS, nbeq]
where
  cond_some' {a b : Bool} (h : cond a b false = true) : a = true ∧ b = true := by cases a <;> simp_all

def blX (s : List Nat) (j : Nat) : AExit := cond (Nat.beq j s.length) (.exit 0) .ret

theorem bl_loop {M : Memo} {ts ss : List AV} (m : LexM M ts ss) {s : List Nat} (hs : s.length ≤ 4000) (hby : ∀ b ∈ s, b < 256) {n : Nat} : ∀ (d j : Nat), s.length - j ≤ d → j ≤ s.length → ∀ (fu : Nat), d < fu → ∀ (r : RG) (H : Heap), r.a.a.a = .ptr n 0 → getF H n = some (lexO s j) → ∀ e, min e (lenF H) = e →
    ∃ r', loopN (q38_8 (orc CC M)) fu r [] ⟨H, e⟩ = some (blX s (j + blS d (s.drop j)), r', [], ⟨setF H n (lexO s (j + blS d (s.drop j))), e⟩) := by
  intro d
  induction d with
  | zero =>
    intro j hd hj fu hfu r H h1 hg e he
    obtain ⟨fu', rfl⟩ : ∃ f, fu = f + 1 := ⟨fu - 1, by omega⟩
    have hjl : j = s.length := by omega
    subst hjl
    have hb : blX s (s.length + blS 0 (s.drop s.length)) = .exit 0 := by simp [blX, blS, nbeq]
    rw [hb]
    have hc : decide ((s.length : Int) < (s.length : Int)) = false := by simp
    simp only [loopN, q38_8, q38_0, SIM, ST0, h1, hg, len_str, hc, blS, setF_self hg]
    exact ⟨_, rfl⟩
  | succ d ih =>
    intro j hd hj fu hfu r H h1 hg e he
    obtain ⟨fu', rfl⟩ : ∃ f, fu = f + 1 := ⟨fu - 1, by omega⟩
    by_cases hlt : j < s.length
    · have hc : decide ((j : Int) < (s.length : Int)) = true := by simp; omega
      have hidx := idx_str (s := s) (i := j) (b := s[j]) (by simp [hlt])
      have hf := sl_from (s := s) hj
      have hi1 := ibyte_ok m.m104 m.m140 (b := s[j]) (hby _ (List.getElem_mem hlt)) [32, 9, 10]
      have hi2 : ∀ H, orc CC M 52 [.str (s.drop j), .int .u8 10] H = some (.ret (.int .i64 (indexByte 10 (s.drop j) 0)) H (lenF H)) := ibyte_ok m.m104 m.m140 (b := 10) (by decide) (s.drop j)
      have hp := pre_has m.m105 m.m141 (s.drop j) [45, 45]
      have hbl := isBl_eq s[j]
      have hdr := drop_at hlt
      have hbs : blS (d + 1) (s.drop j) = cond (isBl s[j]) (1 + blS d (s.drop (j + 1))) (cond (isPre [45, 45] (s.drop j)) (nlS (s.drop j) + blS d ((s.drop j).drop (nlS (s.drop j)))) 0) := by rw [hdr]; rfl
      rw [hbs]
      have ha : addF (j : Int) 1 = ((j + 1 : Nat) : Int) := addF_i j 1 (by unfold natMax; omega)
      cases hb : isBl s[j] with
      | true =>
        rw [hb] at hbl
        simp only [loopN, q38_8, q38_0, q38_1, q38_2, SIM, ST0, h1, hg, len_str, hc, hidx, hi1, hbl, he, ha]
        have key := fun r h1 => ih (j + 1) (by omega) (by omega) fu' (by omega) r (setF H n (lexO s (j + 1))) h1 (getF_set hg _) e (by rw [lenF_set]; exact he)
        simp only [setF_ss, Nat.add_assoc] at key
        refine key _ ?_
        first | exact h1 | rfl
      | false =>
        rw [hb] at hbl
        cases hpr : isPre [45, 45] (s.drop j) with
        | false =>
          rw [hpr] at hp
          have hx : blX s j = .ret := by
            have : decide (j = s.length) = false := by simp; omega
            unfold blX; rw [nbeq, this]; rfl
          simp only [cond_false, Nat.add_zero, hx]
          simp only [loopN, q38_8, q38_0, q38_1, q38_3, SIM, ST0, ST1, h1, hg, len_str, hc, hidx, hi1, hbl, he, hf, hp, setF_self hg]
          exact ⟨_, rfl⟩
        | true =>
          rw [hpr] at hp
          have hnp := nl_pos hpr
          have hnl := nl_le (s.drop j)
          rw [List.length_drop] at hnl
          have hdd : (s.drop j).drop (nlS (s.drop j)) = s.drop (j + nlS (s.drop j)) := by rw [List.drop_drop]
          rw [hdd]
          have hsub : subF (s.length : Int) (j : Int) = ((s.length - j : Nat) : Int) := by
            rw [subF_eq, show (s.length : Int) - (j : Int) = ((s.length - j : Nat) : Int) by omega]
            exact wrap_nat (by unfold natMax; omega)
          have ha2 : addF (j : Int) ((nlS (s.drop j) : Nat) : Int) = ((j + nlS (s.drop j) : Nat) : Int) := addF_i j _ (by unfold natMax; omega)
          have key := fun r h1 => ih (j + nlS (s.drop j)) (by omega) (by omega) fu' (by omega) r (setF H n (lexO s (j + nlS (s.drop j)))) h1 (getF_set hg _) e (by rw [lenF_set]; exact he)
          simp only [setF_ss, Nat.add_assoc] at key
          rcases nl_eq (s.drop j) 0 with ⟨g1, g2⟩ | ⟨g1, g2⟩
          · simp only [g1] at hi2
            have hneg : decide ((-1 : Int) < 0) = true := rfl
            rw [List.length_drop] at g2
            rw [← g2] at hsub
            simp only [cond_true]
            simp only [loopN, q38_8, q38_0, q38_1, q38_3, q38_4, q38_5, q38_6, q38_7, SIM, ST0, ST1, h1, hg, len_str, hc, hidx, hi1, hbl, he, hf, hp, hi2, hneg, hsub, ha2]
            refine key _ ?_
            first | exact h1 | rfl
          · simp only [g1, Nat.zero_add] at hi2
            have hneg : decide (((nlS (s.drop j) : Nat) : Int) < 0) = false := by simp
            simp only [cond_true]
            simp only [loopN, q38_8, q38_0, q38_1, q38_3, q38_4, q38_5, q38_6, q38_7, SIM, ST0, ST1, h1, hg, len_str, hc, hidx, hi1, hbl, he, hf, hp, hi2, hneg, ha2]
            refine key _ ?_
            first | exact h1 | rfl
    · have hjl : j = s.length := by omega
      subst hjl
      have hb : blX s (s.length + blS (d + 1) (s.drop s.length)) = .exit 0 := by simp [blX, blS, nbeq]
      rw [hb]
      have hbs : blS (d + 1) (s.drop s.length) = 0 := by simp [blS]
      have hc : decide ((s.length : Int) < (s.length : Int)) = false := by simp
      rw [hbs]
      simp only [loopN, q38_8, q38_0, SIM, ST0, h1, hg, len_str, hc, setF_self hg]
      exact ⟨_, rfl⟩

/-- where the blanks at a place end -/
def blJ (s : List Nat) (j : Nat) : Nat := j + blS (s.length - j) (s.drop j)

theorem bl_ok {M : Memo} {ts ss : List AV} (m : LexM M ts ss) {s : List Nat} (hs : s.length ≤ 4000) (hby : ∀ b ∈ s, b < 256) {n j : Nat} (hj : j ≤ s.length) {H : Heap} (hn : getF H n = some (lexO s j)) :
    orc CC M 38 [.ptr n 0] H = some (.ret Abs.undef (setF H n (lexO s (blJ s j))) (lenF H)) := by
  refine begin_ (z := z38) (m.m72 _) (by kernel_rfl) rfl ?_
  have e0 : (envOf [.ptr n 0] 0 env0).a.a.a = .ptr n 0 := rfl
  generalize envOf [.ptr n 0] 0 env0 = R at e0
  obtain ⟨r', hr⟩ := bl_loop m hs hby (s.length - j) j (Nat.le_refl _) hj 100000 (by omega) R H e0 hn (lenF H) (Nat.min_self _)
  simp only [z38, SIM, hr, blX]
  unfold blJ
  cases hq : decide (j + blS (s.length - j) (s.drop j) = s.length) <;> simp only [hq, SIM]
end Go.Proofs
set_option maxRecDepth 100000
namespace Go.Proofs
open Go Go.Abs

/-- a token read: what it is, a fault (0: none), where the text is read on -/
structure TkR where
  k : Nat
  p : Nat
  t : List Nat
  m : Nat
  err : Nat
  pos : Nat
def TkR.v (x : TkR) : AV := tokV (x.k : Int) (x.p : Int) x.t (x.m : Int)

def anyW (t : List Nat) : List (List Nat) → Bool
  | [] => false
  | s :: r => cond (strEq s t) true (anyW t r)
def fstW (t : List Nat) : List (List Nat) → Option (List Nat)
  | [] => none
  | s :: r => cond (isPre s t) (some s) (fstW t r)
theorem anyW_eq (t : List Nat) : ∀ l : List (List Nat), anyS t (l.map .str) = some (anyW t l)
  | [] => rfl
  | s :: r => by
    simp only [List.map_cons, anyS, anyW, anyW_eq t r]
    cases strEq s t <;> rfl
theorem fstW_eq (t : List Nat) : ∀ l : List (List Nat), fstPre t (l.map .str) = some (fstW t l)
  | [] => rfl
  | s :: r => by
    simp only [List.map_cons, fstPre, fstW, fstW_eq t r]
    cases isPre s t <;> rfl

def nmT (ws : List (List Nat)) (j : Nat) (t : List Nat) : TkR :=
  cond (anyW t ws) ⟨3, j, t, 0, 0, j + t.length⟩ (cond (Nat.ble t.length 30) ⟨1, j, t, 0, 0, j + t.length⟩ ⟨0, 0, [], 0, 3, j + t.length⟩)
def nbT (j : Nat) (t : List Nat) : TkR := match t with
  | [] => ⟨0, 0, [], 0, 1, j⟩
  | d0 :: t' => cond (Nat.beq d0 48 && Nat.ble 2 (t'.length + 1)) ⟨0, 0, [], 0, 1, j + (d0 :: t').length⟩ (match numS 0 (d0 :: t') with
    | none => ⟨0, 0, [], 0, 3, j + (d0 :: t').length⟩
    | some v => ⟨2, j, d0 :: t', v, 0, j + (d0 :: t').length⟩)
def sgT (j : Nat) : Option (List Nat) → TkR
  | none => ⟨0, 0, [], 0, 1, j⟩
  | some t => ⟨4, j, t, 0, 0, j + t.length⟩
/-- the token at a place that is no blank -/
def nextT (ws sg : List (List Nat)) (s : List Nat) (j : Nat) : TkR := match s.drop j with
  | [] => ⟨5, j, [], 0, 0, j⟩
  | b :: r => cond (isL b) (nmT ws j ((b :: r).takeWhile isLD)) (cond (isD b) (nbT j ((b :: r).takeWhile isD)) (sgT j (fstW (b :: r) sg)))

theorem next_ok {M : Memo} {ws sg : List (List Nat)} (m : LexM M (ws.map .str) (sg.map .str)) {s : List Nat} (hs : s.length ≤ 4000) (hby : ∀ b ∈ s, b < 256) {n j : Nat} (hj : blJ s j ≤ s.length) (hj' : j ≤ s.length) {H : Heap} (hn : getF H n = some (lexO s j)) :
    orc CC M 39 [.ptr n 0] H = some (.ret (.tuple [(nextT ws sg s (blJ s j)).v, .int .i64 ((nextT ws sg s (blJ s j)).err : Int)]) (setF H n (lexO s (nextT ws sg s (blJ s j)).pos)) (lenF H)) := by
  refine begin_ (z := z39) (m.m73 _) (by kernel_rfl) rfl ?_
  have e0 : (envOf [.ptr n 0] 0 env0).a.a.a = .ptr n 0 := rfl
  generalize envOf [.ptr n 0] 0 env0 = R at e0
  have hbl := fun L => bl_ok m hs hby hj' (H := H ++ L) (getF_old hn L)
  generalize blJ s j = i at hj hbl ⊢
  have hn' := getF_set hn (lexO s i)
  unfold nextT
  by_cases hlt : i < s.length
  · have hc : decide ((i : Int) = (s.length : Int)) = false := by simp; omega
    have hdr := drop_at hlt
    have hidx := idx_str (s := s) (i := i) (b := s[i]) (by simp [hlt])
    have hle := letter_ok m.m106 s[i]
    have hdi := digit_ok m.m108 s[i]
    rw [hdr]
    simp only
    cases h1 : isL s[i] with
    | true =>
      rw [h1] at hle
      have hb := anyW_eq ((s.drop i).takeWhile isLD) ws
      have hnm := fun L => name_lex m hs (Nat.le_of_lt hlt) (H := setF H n (lexO s i) ++ L) (getF_old hn' L) hb
      rw [hdr] at hnm
      simp only [cond_true, nmT]
      generalize (s[i] :: s.drop (i + 1)).takeWhile isLD = t at *
      rw [nble]
      cases b1 : anyW t ws <;> rw [b1] at hnm <;> cases b2 : decide (t.length ≤ 30) <;> rw [b2] at hnm <;>
        simp only [z39, q39_0, q39_1, q39_2, q39_3, q39_4, q39_5, SIM, ST0, e0, hbl, getF_old hn, setF_old hn, getF_old hn', setF_old hn', len_str, hc, hidx, hle, hnm, TkR.v, Nat.reduceAdd, Nat.reduceLeDiff, Int.cast_ofNat_Int]
    | false =>
      rw [h1] at hle
      simp only [cond_false]
      cases h2 : isD s[i] with
      | true =>
        rw [h2] at hdi
        have htw : (s.drop i).takeWhile isD = s[i] :: (s.drop (i + 1)).takeWhile isD := by rw [hdr, List.takeWhile_cons, h2]; rfl
        have hnm := fun L => num_lex m hs (Nat.le_of_lt hlt) (H := setF H n (lexO s i) ++ L) (getF_old hn' L) htw
        rw [hdr] at htw
        rw [htw]
        generalize (s.drop (i + 1)).takeWhile isD = t at *
        simp only [cond_true, nbT]
        simp only [numR] at hnm
        cases b1 : Nat.beq s[i] 48 <;> rw [b1] at hnm <;> cases b2 : Nat.ble 2 (t.length + 1) <;> rw [b2] at hnm <;> cases b3 : numS 0 (s[i] :: t) <;> rw [b3] at hnm <;>
        simp only [z39, q39_0, q39_1, q39_2, q39_3, q39_4, q39_5, q39_6, q39_7, SIM, ST0, ST1, e0, hbl, getF_old hn, setF_old hn, getF_old hn', setF_old hn', len_str, hc, hidx, hle, hdi, hnm, TkR.v, Nat.reduceAdd, Nat.reduceLeDiff, Int.cast_ofNat_Int]
      | false =>
        rw [h2] at hdi
        have hx := fstW_eq (s.drop i) sg
        have hnm := fun L => sign_lex m hs (Nat.le_of_lt hlt) (H := setF H n (lexO s i) ++ L) (getF_old hn' L) hx
        rw [hdr] at hnm
        simp only [cond_false]
        cases hf : fstW (s[i] :: s.drop (i + 1)) sg <;> rw [hf] at hnm <;> simp only [signR, signJ] at hnm <;>
        simp only [z39, q39_0, q39_1, q39_2, q39_3, q39_4, q39_5, q39_6, q39_8, SIM, ST0, ST1, e0, hbl, getF_old hn, setF_old hn, getF_old hn', setF_old hn', len_str, hc, hidx, hle, hdi, hnm, TkR.v, sgT, Nat.reduceAdd, Nat.reduceLeDiff, Int.cast_ofNat_Int]
  · have hil : i = s.length := by omega
    subst hil
    have hc : decide ((s.length : Int) = (s.length : Int)) = true := by simp
    simp only [List.drop_length]
    simp only [z39, q39_0, q39_1, q39_2, q39_3, SIM, ST0, e0, hbl, getF_old hn, setF_old hn, getF_old hn', setF_old hn', len_str, hc, bt65_2, TkR.v, Nat.reduceAdd, Nat.reduceLeDiff, Int.cast_ofNat_Int]

/-- all tokens from a place on; a fault where one can't stand -/
def allT (ws sg : List (List Nat)) (s : List Nat) : Nat → Nat → Option (Except (Nat × Nat) (List TkR))
  | 0, _ => none
  | k + 1, j => match nextT ws sg s (blJ s (blJ s j)) with
    | x => cond (Nat.beq x.err 0) (cond (Nat.beq x.k 5) (some (.ok [x])) (match allT ws sg s k x.pos with
      | some (.ok l) => some (.ok (x :: l))
      | r => r)) (some (.error (blJ s j, x.err)))

def allV : Except (Nat × Nat) (List TkR) → List AV → AV
  | .error (p, e), _ => .tuple [.nils, .agg [.int .i64 (p : Int), .int .i64 (e : Int)]]
  | .ok l, acc => .tuple [.sl 4 (acc ++ l.map TkR.v) .dead, .agg [.int .i64 0, .int .i64 0]]

theorem bl_le {s : List Nat} : ∀ (d : Nat) (t : List Nat), blS d t ≤ t.length
  | 0, t => by simp [blS]
  | d + 1, [] => by simp [blS]
  | d + 1, b :: r => by
    simp only [blS]
    cases isBl b with
    | true => have := bl_le d r (s := s); simp; omega
    | false => cases isPre [45, 45] (b :: r) with
      | true =>
        have h1 := bl_le d ((b :: r).drop (nlS (b :: r))) (s := s)
        have h2 := nl_le (b :: r)
        rw [List.length_drop] at h1
        simp only [cond_false, cond_true]; omega
      | false => simp
theorem blJ_le {s : List Nat} {j : Nat} (hj : j ≤ s.length) : blJ s j ≤ s.length := by
  have := bl_le (s := s) (s.length - j) (s.drop j)
  rw [List.length_drop] at this
  unfold blJ; omega
theorem nextT_le {ws sg : List (List Nat)} {s : List Nat} {j : Nat} (hj : j ≤ s.length) : (nextT ws sg s j).pos ≤ s.length := by
  unfold nextT
  split
  · exact hj
  · rename_i b r hd
    have hl : (b :: r).length = s.length - j := by rw [← hd, List.length_drop]
    have h1 := (List.takeWhile_sublist isLD (l := b :: r)).length_le
    have h2 := (List.takeWhile_sublist isD (l := b :: r)).length_le
    cases isL b with
    | true =>
      simp only [cond_true, nmT]
      generalize (b :: r).takeWhile isLD = t at *
      cases anyW t ws <;> cases Nat.ble t.length 30 <;> simp only [cond_true, cond_false] <;> omega
    | false => cases isD b with
      | true =>
        simp only [cond_true, cond_false, nbT]
        generalize (b :: r).takeWhile isD = t at *
        cases t with
        | nil => exact hj
        | cons d0 t' =>
          simp only
          cases (Nat.beq d0 48 && Nat.ble 2 (t'.length + 1)) <;> cases numS 0 (d0 :: t') <;> simp only [cond_true, cond_false] <;> omega
      | false =>
        simp only [cond_false]
        cases hf : fstW (b :: r) sg with
        | none => exact hj
        | some t =>
          have : t.length ≤ (b :: r).length := by
            have key : ∀ l : List (List Nat), fstW (b :: r) l = some t → t.length ≤ (b :: r).length := by
              intro l
              induction l with
              | nil => intro h; cases h
              | cons w l ih =>
                intro h
                simp only [fstW] at h
                cases hp : isPre w (b :: r) with
                | true =>
                  rw [hp] at h
                  simp only [cond_true, Option.some.injEq] at h
                  subst h
                  exact isPre_len _ _ hp
                | false => rw [hp] at h; exact ih h
            exact key sg hf
          simp only [sgT]; omega
theorem nextT_noN (x : TkR) : noN x.v = true := by simp only [TkR.v, SIM]
end Go.Proofs
set_option maxRecDepth 100000
namespace Go.Proofs
open Go Go.Abs

theorem app_nil67 (x : TkR) (hp : Heap) (e : Nat) : appendAV CC 25 52 .nils (.sl 4 [x.v] .lit) ⟨hp, e⟩ = some (.sl 4 [x.v] (.live (lenF hp) 0), ⟨hp ++ [.lin 0], e⟩) := by
  rw [lenF_eq]
  unfold TkR.v
  kernel_rfl
theorem bsl67 (x : TkR) : bslV CC 52 1 [(0, x.v)] = some (.sl 4 [x.v] .lit) := by
  unfold TkR.v
  kernel_rfl
theorem se67 : sliceElem CC 52 = some 50 := by kernel_rfl
theorem inf65' : (CC.P.info? 50).map (fun i => (i.size, i.bytes)) = some (4, 40) := by kernel_rfl
theorem inf65 : ∃ i, CC.P.info? 50 = some i ∧ i.size = 4 ∧ i.bytes = 40 := by
  have h := inf65'
  cases hi : CC.P.info? 50 with
  | none => rw [hi] at h; cases h
  | some i =>
    rw [hi] at h
    simp only [Option.map_some, Option.some.injEq, Prod.mk.injEq] at h
    exact ⟨i, rfl, h.1, h.2⟩
theorem zero65 : zeroT CC 50 = some (tokV 0 0 [] 0) := by kernel_rfl
theorem mut67 : CC.mutT 45 52 = false := by kernel_rfl
theorem app_live67 {acc : List AV} (x : TkR) {hp : Heap} {e id g : Nat} (hg : hp[id]? = some (.lin g)) (hl : acc.length + 1 ≤ 2 ^ 24) :
    appendAV CC 25 52 (.sl 4 acc (.live id g)) (.sl 4 [x.v] .lit) ⟨hp, e⟩ = some (.sl 4 (acc ++ [x.v]) (.live id (g + 1)), ⟨hp.set id (.lin (g + 1)), e⟩) := by
  obtain ⟨i, h1, h2, h3⟩ := inf65
  have h4 : [x.v].all (elemOk 4) = true := by unfold TkR.v; rfl
  have h5 : decide (acc.length + [x.v].length ≤ 2 ^ 24) = true := by simp; omega
  simp only [appendAV, se67, h1, zero65, h2, h3, elemsAV, if_true, h4, h5, hg, List.isEmpty]
  simp [AV.cells]

theorem app_live67' {acc : List AV} (x : TkR) (H : Heap) (a b c : AObj) (L : Heap) (e g : Nat) (hl : acc.length + 1 ≤ 2 ^ 24) :
    appendAV CC 25 52 (.sl 4 acc (.live (lenF H + 3) g)) (.sl 4 [x.v] .lit) ⟨H ++ (a :: b :: c :: .lin g :: L), e⟩ = some (.sl 4 (acc ++ [x.v]) (.live (lenF H + 3) (g + 1)), ⟨H ++ (a :: b :: c :: .lin (g + 1) :: L), e⟩) := by
  have h1 : (H ++ (a :: b :: c :: .lin g :: L))[lenF H + 3]? = some (.lin g) := by rw [← getF_eq, getF_app]; rfl
  rw [app_live67 x h1 hl, ← setF_eq, setF_app]
  rfl

theorem setF_cs {α : Type} (a v : α) (l : List α) (n : Nat) : setF (a :: l) (n + 1) v = a :: setF l n v := rfl
theorem getF_cs {α : Type} (a : α) (l : List α) (n : Nat) : getF (a :: l) (n + 1) = getF l n := rfl

/-- where the tokens read so far stand -/
def OutI (H : Heap) (r : RG) (G : Heap) (acc : List TkR) : Prop :=
  (acc = [] ∧ G = [] ∧ r.a.a.f = .nils) ∨ (∃ o g G', acc ≠ [] ∧ G = o :: .lin g :: G' ∧ r.a.a.f = .sl 4 (acc.map TkR.v) (.live (lenF H + 3) g))

/-- what is left where a text ends -/
def AllE (H : Heap) (r : RG) (F : AObj) (acc : List TkR) : Except (Nat × Nat) (List TkR) → Prop
  | .error (p, e) => F = .cells [.int .i64 (p : Int), .int .i64 (e : Int)] ∧ r.a.a.c = .nils
  | .ok l => F = .cells [.int .i64 0, .int .i64 0] ∧ ∃ g, r.a.a.c = .sl 4 ((acc ++ l).map TkR.v) (.live (lenF H + 3) g)

theorem bf29 (a b : Int) : buildAV CC 27 [(0, .int .i64 a), (1, .int .i64 b)] = some (.agg [.int .i64 a, .int .i64 b]) := by kernel_rfl
theorem bf29_0 : buildAV CC 27 [] = some (.agg [.int .i64 0, .int .i64 0]) := by kernel_rfl
theorem ieq (a b : Nat) : decide ((a : Int) = (b : Int)) = Nat.beq a b := cie a b

theorem all_loop {M : Memo} {ws sg : List (List Nat)} (m : LexM M (ws.map .str) (sg.map .str)) {s : List Nat} (hs : s.length ≤ 4000) (hby : ∀ b ∈ s, b < 256) {H : Heap} : ∀ (k j : Nat), j ≤ s.length → ∀ (fu : Nat), k ≤ fu → ∀ (r : RG) (G : Heap) (acc : List TkR) (res : Except (Nat × Nat) (List TkR)),
    acc.length + k ≤ 100000 → r.a.a.d = .ptr (lenF H) 0 → r.a.a.e = .ptr (lenF H + 1) 0 → OutI H r G acc → allT ws sg s k j = some res →
    ∃ r' F G', loopN (q25_13 (orc CC M)) fu r [] ⟨H ++ (.cells [.int .i64 0, .int .i64 0] :: lexO s j :: G), lenF H⟩ = some (.ret, r', [], ⟨H ++ (F :: G'), lenF H⟩) ∧ r'.a.a.d = .ptr (lenF H) 0 ∧ AllE H r' F acc res := by
  intro k
  induction k with
  | zero => intro j hj fu hfu r G acc res ha h1 h2 ho hr; cases hr
  | succ k ih =>
    intro j hj fu hfu r G acc res ha h1 h2 ho hr
    obtain ⟨fu', rfl⟩ : ∃ f, fu = f + 1 := ⟨fu - 1, by omega⟩
    have hj1 := blJ_le hj
    have hj2 := blJ_le hj1
    have hpos := nextT_le (ws := ws) (sg := sg) hj2
    have hbl := fun F L => bl_ok m hs hby hj (n := lenF H + 1) (H := H ++ (F :: lexO s j :: L)) (by rw [getF_app, getF_1])
    have hnx := fun F L => next_ok m hs hby hj2 hj1 (n := lenF H + 1) (H := H ++ (F :: lexO s (blJ s j) :: L)) (by rw [getF_app, getF_1])
    simp only [allT] at hr
    generalize nextT ws sg s (blJ s (blJ s j)) = x at hr hnx hpos
    have e1 : decide ((x.err : Int) = 0) = Nat.beq x.err 0 := ieq x.err 0
    have e5 : decide ((x.k : Int) = 5) = Nat.beq x.k 5 := ieq x.k 5
    cases h0 : Nat.beq x.err 0 with
    | false =>
      rw [h0] at hr e1
      simp only [cond_false, Option.some.injEq] at hr
      subst hr
      simp only [loopN, q25_13, q25_5, q25_6, q25_7, q25_8, q25_9, SIM, ST0, h1, h2, hbl, hnx, e1, TkR.v, bf29, Nat.reduceAdd, Nat.reduceLeDiff]
      exact ⟨_, _, _, rfl, rfl, rfl, rfl⟩
    | true =>
      rw [h0] at hr e1
      simp only [cond_true] at hr
      cases h5 : Nat.beq x.k 5 with
      | true =>
        rw [h5] at hr e5
        simp only [cond_true, Option.some.injEq] at hr
        subst hr
        rcases ho with ⟨rfl, rfl, h3⟩ | ⟨o, g, G', hne, rfl, h3⟩
        · have hb := bsl67 x
          have ha1 := app_nil67 x
          simp only [TkR.v] at hb ha1
          simp only [loopN, q25_13, q25_5, q25_6, q25_7, q25_8, q25_10, q25_11, q25_12, SIM, ST0, ST1, h1, h2, h3, hbl, hnx, e1, e5, TkR.v, bf29_0, hb, ha1, Nat.reduceAdd, Nat.reduceLeDiff]
          refine ⟨_, _, _, rfl, ?_, ?_⟩
          · rfl
          · exact ⟨rfl, _, rfl⟩
        · have hb := bsl67 x
          have ha2 := fun a b c L e => app_live67' (acc := acc.map TkR.v) x H a b c L e g (by rw [List.length_map]; omega)
          generalize hacc : acc.map TkR.v = A at ha2 h3
          simp only [TkR.v] at hb ha2
          simp only [loopN, q25_13, q25_5, q25_6, q25_7, q25_8, q25_10, q25_11, q25_12, SIM, ST0, ST1, h1, h2, h3, hbl, hnx, e1, e5, TkR.v, bf29_0, hb, ha2, setF_cs, getF_cs, Nat.reduceAdd, Nat.reduceLeDiff]
          refine ⟨_, _, _, rfl, ?_, ?_⟩
          · rfl
          · refine ⟨rfl, g + 1, ?_⟩
            rw [List.map_append, hacc]
            rfl
      | false =>
        rw [h5] at hr e5
        simp only [cond_false] at hr
        have hrec : ∃ res', allT ws sg s k x.pos = some res' ∧ (match res' with | .ok l => res = .ok (x :: l) | .error q => res = .error q) := by
          cases hq : allT ws sg s k x.pos with
          | none => rw [hq] at hr; cases hr
          | some res' =>
            rw [hq] at hr
            cases res' with
            | ok l => simp only [Option.some.injEq] at hr; exact ⟨_, rfl, hr.symm⟩
            | error q => simp only [Option.some.injEq] at hr; exact ⟨_, rfl, hr.symm⟩
        obtain ⟨res', hq, hres⟩ := hrec
        have fin : ∀ r' F, AllE H r' F (acc ++ [x]) res' → AllE H r' F acc res := by
          intro r' F hE
          cases res' with
          | ok l =>
            simp only at hres; subst hres
            simp only [AllE, List.append_assoc, List.singleton_append] at hE ⊢
            exact hE
          | error q =>
            simp only at hres; subst hres
            exact hE
        rcases ho with ⟨rfl, rfl, h3⟩ | ⟨o, g, G', hne, rfl, h3⟩
        · have hb := bsl67 x
          have ha1 := app_nil67 x
          simp only [TkR.v] at hb ha1
          simp only [loopN, q25_13, q25_5, q25_6, q25_7, q25_8, q25_10, q25_11, SIM, ST0, ST1, h1, h2, h3, hbl, hnx, e1, e5, TkR.v, hb, ha1, Nat.reduceAdd, Nat.reduceLeDiff]
          have key : ∀ (r : RG) (G : Heap), r.a.a.d = .ptr (lenF H) 0 → r.a.a.e = .ptr (lenF H + 1) 0 → OutI H r G ([] ++ [x]) →
              ∃ r' F G', loopN (q25_13 (orc CC M)) fu' r [] ⟨H ++ (.cells [.int .i64 0, .int .i64 0] :: lexO s x.pos :: G), lenF H⟩ = some (.ret, r', [], ⟨H ++ (F :: G'), lenF H⟩) ∧ r'.a.a.d = .ptr (lenF H) 0 ∧ AllE H r' F [] res := by
            intro r G h1 h2 ho
            obtain ⟨r', F, G', k1, k2, k3⟩ := ih x.pos hpos fu' (by omega) r G ([] ++ [x]) res' (by simp at ha ⊢; omega) h1 h2 ho hq
            exact ⟨r', F, G', k1, k2, fin r' F k3⟩
          refine key _ _ ?_ ?_ ?_
          · first | exact h1 | rfl
          · first | exact h2 | rfl
          · exact .inr ⟨_, 0, [], by simp, rfl, rfl⟩
        · have hb := bsl67 x
          have ha2 := fun a b c L e => app_live67' (acc := acc.map TkR.v) x H a b c L e g (by rw [List.length_map]; omega)
          have hmap : (acc ++ [x]).map TkR.v = acc.map TkR.v ++ [x.v] := by simp
          generalize hacc : acc.map TkR.v = A at ha2 h3 hmap
          simp only [TkR.v] at hb ha2
          simp only [loopN, q25_13, q25_5, q25_6, q25_7, q25_8, q25_10, q25_11, SIM, ST0, ST1, h1, h2, h3, hbl, hnx, e1, e5, TkR.v, hb, ha2, setF_cs, getF_cs, Nat.reduceAdd, Nat.reduceLeDiff]
          have key : ∀ (r : RG) (G : Heap), r.a.a.d = .ptr (lenF H) 0 → r.a.a.e = .ptr (lenF H + 1) 0 → OutI H r G (acc ++ [x]) →
              ∃ r' F G', loopN (q25_13 (orc CC M)) fu' r [] ⟨H ++ (.cells [.int .i64 0, .int .i64 0] :: lexO s x.pos :: G), lenF H⟩ = some (.ret, r', [], ⟨H ++ (F :: G'), lenF H⟩) ∧ r'.a.a.d = .ptr (lenF H) 0 ∧ AllE H r' F acc res := by
            intro r G h1 h2 ho
            obtain ⟨r', F, G', k1, k2, k3⟩ := ih x.pos hpos fu' (by omega) r G (acc ++ [x]) res' (by simp at ha ⊢; omega) h1 h2 ho hq
            exact ⟨r', F, G', k1, k2, fin r' F k3⟩
          refine key _ _ ?_ ?_ ?_
          · first | exact h1 | rfl
          · first | exact h2 | rfl
          · refine .inr ⟨_, g + 1, _, by simp, rfl, ?_⟩
            rw [hmap]
            rfl
end Go.Proofs
set_option maxRecDepth 100000
namespace Go.Proofs
open Go Go.Abs

theorem settleL_nn {l : List AV} (h : noNL l = true) (b : Nat) (hp : Heap) : settleL b hp l = l := by
  have := (noN_ok (.agg l) (by rw [noN_agg]; exact h)).1 b hp
  simp only [AV.settle, AV.agg.injEq] at this
  exact this
theorem lowL_nn {l : List AV} (h : noNL l = true) (b : Nat) : lowL b l = true := by
  have := (noN_ok (.agg l) (by rw [noN_agg]; exact h)).2 b
  simpa only [AV.low] using this

/-- a slice of a line of appends that ends with the call -/
theorem gc_live {sz : Nat} {l fs : List AV} {id g base : Nat} {hp : Heap} (hl : noNL l = true) (hf : noNL fs = true) (hid : base ≤ id) :
    gcF false base (.tuple [.sl sz l (.live id g), .agg fs]) ⟨hp, base⟩ = .ret (.tuple [.sl sz l .dead, .agg fs]) (takeF base hp) base := by
  have h1 : noN (.tuple [.sl sz l (.live id g), .agg fs]) = false := rfl
  have h2 : Lin.low base (.live id g) = false := by simp [Lin.low]; omega
  have h3 : AV.settle base hp (.tuple [.sl sz l (.live id g), .agg fs]) = .tuple [.sl sz l .dead, .agg fs] := by
    simp [AV.settle, settleL, settleL_nn hl, settleL_nn hf, h2]
  have h4 : AV.low base (.tuple [.sl sz l .dead, .agg fs]) = true := by
    simp [AV.low, lowL, lowL_nn hl, lowL_nn hf, Lin.low]
  unfold gcF
  rw [h1, Bool.and_false]
  simp only [cond_false, gcR, gcRet, if_true, h3, h4, Bool.false_eq_true, if_false, takeF_eq]

theorem noNL_map (l : List TkR) : noNL (l.map TkR.v) = true := by
  induction l with
  | nil => rfl
  | cons x l ih => rw [List.map_cons, noNL_cons, nextT_noN, ih]; rfl

theorem keep45 : CC.keep 25 = false := by kernel_rfl
theorem bt168 (s : List Nat) : buildAV CC 105 [(0, .str s)] = some (.agg [.str s, .int .i64 0]) := by kernel_rfl
theorem bx168 (s : List Nat) (L : Nat) : bxV (.agg [.str s, .int .i64 0]) L = some (.cells [.str s, .int .i64 0], (.ptr · 0)) := rfl

theorem lex_long {M : Memo} {s : List Nat} (hM : M 25 [.str s] = none) (hs : 4000 < s.length) (H : Heap) :
    orc CC M 25 [.str s] H = some (.ret (.tuple [.nils, .agg [.int .i64 4000, .int .i64 3]]) H (lenF H)) := by
  refine begin_ (z := z25) hM (by kernel_rfl) rfl ?_
  have e0 : (envOf [.str s] 0 env0).a.a.a = .str s := rfl
  generalize envOf [.str s] 0 env0 = R at e0
  have hc : decide ((4000 : Int) < (s.length : Int)) = true := by simp; omega
  have hb : buildAV CC 27 [(0, .int .i64 4000), (1, .int .i64 3)] = some (.agg [.int .i64 4000, .int .i64 3]) := bf29 4000 3
  simp only [z25, q25_0, q25_1, q25_2, SIM, ST0, e0, len_str, hc, hb, Nat.reduceAdd, Nat.reduceLeDiff]

theorem lex_ok {M : Memo} {ws sg : List (List Nat)} (m : LexM M (ws.map .str) (sg.map .str)) {s : List Nat} (hM : M 25 [.str s] = none) (hs : s.length ≤ 4000) (hby : ∀ b ∈ s, b < 256) {k : Nat} (hk : k ≤ 99999) {res : Except (Nat × Nat) (List TkR)}
    (hr : allT ws sg s k 0 = some res) (H : Heap) : orc CC M 25 [.str s] H = some (.ret (allV res []) H (lenF H)) := by
  refine begin_ (z := z25) hM (by kernel_rfl) rfl ?_
  have e0 : (envOf [.str s] 0 env0).a.a.a = .str s := rfl
  generalize envOf [.str s] 0 env0 = R at e0
  have hc : decide ((4000 : Int) < (s.length : Int)) = false := by simp; omega
  have hlp : ∀ (r : RG), (r.a.a.d = .ptr (lenF H) 0 ∧ r.a.a.e = .ptr (lenF H + 1) 0 ∧ r.a.a.f = .nils) → ∃ r', ∃ F G', loopN (q25_13 (orc CC M)) 100000 r [] ⟨H ++ (.cells [.int .i64 0, .int .i64 0] :: lexO s 0 :: []), lenF H⟩ = some (.ret, r', [], ⟨H ++ (F :: G'), lenF H⟩) ∧ r'.a.a.d = .ptr (lenF H) 0 ∧ AllE H r' F [] res :=
    fun r h => all_loop m hs hby k 0 (by omega) 100000 (by omega) r [] [] res (by simp; omega) h.1 h.2.1 (.inl ⟨rfl, rfl, h.2.2⟩) hr
  have hlex : lexO s 0 = .cells [.str s, .int .i64 0] := rfl
  rw [hlex] at hlp
  obtain ⟨f, hf⟩ := sk hlp
  have hbx := bx168 s
  have pre : ∃ r, (r.a.a.d = .ptr (lenF H) 0 ∧ r.a.a.e = .ptr (lenF H + 1) 0 ∧ r.a.a.f = .nils) ∧ z25.sh (orc CC M) R [] ⟨H, lenF H⟩ = blkK 0 (loopN (q25_13 (orc CC M)) 100000 r [] ⟨H ++ [.cells [.int .i64 0, .int .i64 0], .cells [.str s, .int .i64 0]], lenF H⟩) := by
    simp only [z25, q25_0, q25_1, q25_3, q25_4, SIM, ST0, e0, len_str, hc, bt168, hbx, Nat.reduceAdd, Nat.reduceLeDiff]
    refine ⟨_, ?_, rfl⟩
    exact ⟨rfl, rfl, rfl⟩
  obtain ⟨r0, hr0, hpre⟩ := pre
  rw [hpre]
  obtain ⟨F, G', h1, h2, h3⟩ := hf r0 hr0
  rw [h1]
  cases res with
  | error q =>
    obtain ⟨p, e⟩ := q
    obtain ⟨rfl, h4⟩ := h3
    simp only [z25, SIM, gt_2, gt_3, h2, h4, allV, Nat.reduceAdd, Nat.reduceLeDiff]
  | ok l =>
    obtain ⟨rfl, g, h4⟩ := h3
    rw [List.nil_append] at h4
    have hgc := fun hp => gc_live (sz := 4) (l := l.map TkR.v) (fs := [.int .i64 0, .int .i64 0]) (id := lenF H + 3) (g := g) (base := lenF H) (hp := hp) (noNL_map l) rfl (by omega)
    simp only [z25, finZ_r, blkK_r, resI_t, resI_c, resI_n, gt_2, gt_3, h2, h4, SIM, allV, Nat.reduceAdd, Nat.reduceLeDiff, keep45, hgc]
end Go.Proofs
