/- the reader of tokens. Part of the proof of girandolelaw08.FlatClocks. -/
import Derived.Test.YtglacbfdbfhmfaaDoorCode0
import Derived.Test.YtglacbfdbfhmfaaDoorB3
set_option linter.unusedVariables false
set_option linter.unusedSimpArgs false
set_option maxRecDepth 100000
namespace Go.Proofs
open Go Go.Abs

/-- a token -/
abbrev tokV (k p : Int) (t : List Nat) (m : Int) : AV := .agg [.int .i64 k, .int .i64 p, .str t, .int .u64 m]
/-- a reader of tokens -/
abbrev curO (toks : List AV) (lin : Lin) (i : Nat) : AObj := .cells [.sl 4 toks lin, .int .i64 (i : Int)]

theorem peek_ok {M : Memo} (hM : ∀ a, M 19 a = none) {H : Heap} {n : Nat} {toks : List AV} {lin : Lin} {i : Nat} {k p m : Int} {t : List Nat}
    (hn : getF H n = some (curO toks lin i)) (ht : getF toks i = some (tokV k p t m)) :
    orc CC M 19 [.ptr n 0] H = some (.ret (tokV k p t m) H (lenF H)) := by
  refine orc_step cc_mask (T := tget tab) tab_ok (hM _) ?_
  rw [show tget tab 19 = some z19 by kernel_rfl]
  show cond (Nat.ble 1 512) (finZ CC 19 (lenF H) z19 (z19.sh (orc CC M) (envOf [.ptr n 0] 0 env0) [] { heap := H, esc := lenF H })) none = _
  have e0 : (envOf [.ptr n 0] 0 env0).a.a.a = .ptr n 0 := rfl
  generalize envOf [.ptr n 0] 0 env0 = R at e0
  simp only [z19, q19_0, q19_1, SIM, ST0, e0, getF_old hn, iasV_i (sz := 4) (lin := lin) ht, Nat.reduceAdd, Nat.reduceLeDiff]

/-- is a text one of some? -/
def anyS (t : List Nat) : List AV → Option Bool
  | [] => some false
  | .str s :: r => cond (strEq s t) (some true) (anyS t r)
  | _ => none

theorem cc26 : CC.P.underlying 37 = some (.slice 9) := by kernel_rfl
theorem len_sl {t e : TypeId} (h : CC.P.underlying t = some (.slice e)) (sz : Nat) (es : List AV) (l : Lin) : lenV CC t (.sl sz es l) = some (.int .i64 (es.length : Int)) := by rw [lenV_eq]; simp [lenAV, h]

theorem is_loop {M : Memo} {H : Heap} {n : Nat} {k p m : Int} {t : List Nat} {ts : List AV} {l : Lin} (hts : ts.length < 1000) : ∀ (d j : Nat), d + j = ts.length → ∀ (fu : Nat), d < fu → ∀ (r : RG) (b : Bool),
    r.a.c.c = .sl 1 ts l → r.a.c.d = .int .i64 (ts.length : Int) → r.a.c.e = .int .i64 (j : Int) → r.a.a.f = .ptr n 0 → getF H n = some (.cells [.int .i64 k, .int .i64 p, .str t, .int .u64 m]) → anyS t (ts.drop j) = some b → ∀ e,
    ∃ r', loopN (q33_10 (orc CC M)) fu r [] ⟨H, e⟩ = some (cond b .ret (.exit 0), r', [], ⟨H, e⟩) ∧ (b = true → r'.a.a.e = .bool b) := by
  intro d
  induction d with
  | zero =>
    intro j hj fu hfu r b h1 h2 h3 h4 hg hb e
    obtain ⟨fu', rfl⟩ : ∃ f, fu = f + 1 := ⟨fu - 1, by omega⟩
    have hjl : j = ts.length := by omega
    subst hjl
    rw [List.drop_length] at hb
    simp only [anyS, Option.some.injEq] at hb
    subst hb
    simp only [loopN, q33_10, q33_5, SIM, ST0, h2, h3, Int.lt_irrefl]
    exact ⟨_, rfl, fun h => by cases h⟩
  | succ d ih =>
    intro j hj fu hfu r b h1 h2 h3 h4 hg hb e
    obtain ⟨fu', rfl⟩ : ∃ f, fu = f + 1 := ⟨fu - 1, by omega⟩
    have hlt : j < ts.length := by omega
    have hd : ts.drop j = ts[j] :: ts.drop (j + 1) := List.drop_eq_getElem_cons hlt
    rw [hd] at hb
    cases hv : ts[j] with
    | str s =>
      rw [hv] at hb
      simp only [anyS] at hb
      have hi : getF ts j = some (.str s) := by rw [getF_eq, List.getElem?_eq_getElem hlt, hv]
      have hc : decide ((j : Int) < (ts.length : Int)) = true := by simp; omega
      have ha : addF (j : Int) 1 = ((j + 1 : Nat) : Int) := addF_i j 1 (by unfold natMax; omega)
      cases hs : strEq s t with
      | true =>
        rw [hs] at hb
        simp only [cond_true, Option.some.injEq] at hb
        subst hb
        simp only [loopN, q33_10, q33_5, q33_6, q33_7, q33_8, q33_9, SIM, ST0, h1, h2, h3, h4, hc, iasV_i (sz := 1) (lin := l) hi, hg, hs]
        exact ⟨_, rfl, fun _ => rfl⟩
      | false =>
        rw [hs] at hb
        simp only [cond_false] at hb
        simp only [loopN, q33_10, q33_5, q33_6, q33_7, q33_8, q33_9, SIM, ST0, h1, h2, h3, h4, hc, iasV_i (sz := 1) (lin := l) hi, hg, hs, ha]
        exact ih (j + 1) (by omega) fu' (by omega) _ b rfl rfl rfl rfl hg hb e
    | _ => rw [hv] at hb; simp [anyS] at hb

theorem is_ok {M : Memo} (hM : ∀ a, M 19 a = none) (hM' : ∀ a, M 33 a = none) {H : Heap} {n : Nat} {toks : List AV} {lin : Lin} {i : Nat} {k p m : Int} {t : List Nat} {ts : List AV} {l : Lin} {b : Bool}
    (hn : getF H n = some (curO toks lin i)) (ht : getF toks i = some (tokV k p t m)) (hts : ts.length < 1000) (hb : anyS t ts = some b) :
    orc CC M 33 [.ptr n 0, .sl 1 ts l] H = some (.ret (.bool (cond (decide (k = 3) || decide (k = 4)) b false)) H (lenF H)) := by
  refine orc_step cc_mask (T := tget tab) tab_ok (hM' _) ?_
  rw [show tget tab 33 = some z33 by kernel_rfl]
  show cond (Nat.ble 2 512) (finZ CC 33 (lenF H) z33 (z33.sh (orc CC M) (envOf [.ptr n 0, .sl 1 ts l] 0 env0) [] { heap := H, esc := lenF H })) none = _
  have e0 : (envOf [.ptr n 0, .sl 1 ts l] 0 env0).a.a.a = .ptr n 0 := rfl
  have e1 : (envOf [.ptr n 0, .sl 1 ts l] 0 env0).a.a.b = .sl 1 ts l := rfl
  generalize envOf [.ptr n 0, .sl 1 ts l] 0 env0 = R at e0 e1
  have hcs : getF (H ++ [.cells [.int .i64 k, .int .i64 p, .str t, .int .u64 m]]) (lenF H) = some (.cells [.int .i64 k, .int .i64 p, .str t, .int .u64 m]) := by rw [getF_app0, getF_0]
  obtain ⟨f, hf⟩ := sk (P := fun r => r.a.c.c = .sl 1 ts l ∧ r.a.c.d = .int .i64 (ts.length : Int) ∧ r.a.c.e = .int .i64 0 ∧ r.a.a.f = .ptr (lenF H) 0)
    fun r hr => is_loop (M := M) hts ts.length 0 (by omega) 100000 (by omega) r b hr.1 hr.2.1 hr.2.2.1 hr.2.2.2 hcs hb (lenF H)
  have hf1 := fun r h => (hf r h).1
  have hf2 := fun r h => (hf r h).2
  clear hf
  cases b <;> cases h3 : decide (k = 3) <;> cases h4 : decide (k = 4) <;>
    simp only [z33, q33_0, q33_1, q33_2, q33_3, q33_4, q33_11, SIM, ST0, e0, e1, peek_ok hM hn ht, len_sl cc26, h3, h4, Nat.reduceAdd, Nat.reduceLeDiff, Bool.or_true, Bool.true_or, Bool.or_false, Bool.false_or, hf1, hf2, and_self]

theorem take_ok {M : Memo} (hM : ∀ a, M 19 a = none) (hM' : ∀ a, M 33 a = none) (hM'' : ∀ a, M 40 a = none) {H : Heap} {n : Nat} {toks : List AV} {lin : Lin} {i : Nat} {k p m : Int} {t : List Nat} {ts : List AV} {l : Lin} {b : Bool}
    (hn : getF H n = some (curO toks lin i)) (ht : getF toks i = some (tokV k p t m)) (hts : ts.length < 1000) (hb : anyS t ts = some b) (hi : i + 1 ≤ natMax) :
    orc CC M 40 [.ptr n 0, .sl 1 ts l] H = some (cond (cond (decide (k = 3) || decide (k = 4)) b false) (.ret (.tuple [tokV k p t m, .bool true]) (setF H n (curO toks lin (i + 1))) (lenF H)) (.ret (.tuple [tokV k p t m, .bool false]) H (lenF H))) := by
  refine orc_step cc_mask (T := tget tab) tab_ok (hM'' _) ?_
  rw [show tget tab 40 = some z40 by kernel_rfl]
  show cond (Nat.ble 2 512) (finZ CC 40 (lenF H) z40 (z40.sh (orc CC M) (envOf [.ptr n 0, .sl 1 ts l] 0 env0) [] { heap := H, esc := lenF H })) none = _
  have e0 : (envOf [.ptr n 0, .sl 1 ts l] 0 env0).a.a.a = .ptr n 0 := rfl
  have e1 : (envOf [.ptr n 0, .sl 1 ts l] 0 env0).a.a.b = .sl 1 ts l := rfl
  generalize envOf [.ptr n 0, .sl 1 ts l] 0 env0 = R at e0 e1
  have hp := fun L => peek_ok (H := H ++ L) hM (getF_old hn L) ht
  have hs := fun L => is_ok (H := H ++ L) (l := l) hM hM' (getF_old hn L) ht hts hb
  have ha : addF (i : Int) 1 = ((i + 1 : Nat) : Int) := addF_i i 1 hi
  generalize cond (decide (k = 3) || decide (k = 4)) b false = c at hs ⊢
  cases c <;>
    simp only [z40, q40_0, q40_1, q40_2, q40_3, q40_4, q40_5, SIM, ST0, e0, e1, hp, hs, Nat.reduceAdd, Nat.reduceLeDiff, getF_old hn, ha, setF_old hn]

theorem lp0 (b : CZ) (r : RG) (ds : Dfs) (s : St) : loopN b 100000 r ds s = seqK (loopN b 99999) (b r ds s) := rfl
theorem lp1 (b : CZ) (r : RG) (ds : Dfs) (s : St) : loopN b 99999 r ds s = seqK (loopN b 99998) (b r ds s) := rfl
theorem bsl26 (s : List Nat) : bslV CC 37 1 [(0, .str s)] = some (.sl 1 [.str s] .lit) := by kernel_rfl

theorem want_ok {M : Memo} (hM : ∀ a, M 19 a = none) (hM' : ∀ a, M 33 a = none) (hM'' : ∀ a, M 40 a = none) (hM3 : ∀ a, M 29 a = none) {H : Heap} {n : Nat} {toks : List AV} {lin : Lin} {i : Nat} {k p m : Int} {t : List Nat} {s : List Nat} {l : Lin}
    (hn : getF H n = some (curO toks lin i)) (ht : getF toks i = some (tokV k p t m)) (hk : (decide (k = 3) || decide (k = 4)) = true) (hs : strEq s t = true) (hi : i + 1 ≤ natMax) :
    orc CC M 29 [.ptr n 0, .sl 1 [.str s] l] H = some (.ret (tokV k p t m) (setF H n (curO toks lin (i + 1))) (lenF H)) := by
  refine orc_step cc_mask (T := tget tab) tab_ok (hM3 _) ?_
  rw [show tget tab 29 = some z29 by kernel_rfl]
  show cond (Nat.ble 2 512) (finZ CC 29 (lenF H) z29 (z29.sh (orc CC M) (envOf [.ptr n 0, .sl 1 [.str s] l] 0 env0) [] { heap := H, esc := lenF H })) none = _
  have e0 : (envOf [.ptr n 0, .sl 1 [.str s] l] 0 env0).a.a.a = .ptr n 0 := rfl
  have e1 : (envOf [.ptr n 0, .sl 1 [.str s] l] 0 env0).a.a.b = .sl 1 [.str s] l := rfl
  generalize envOf [.ptr n 0, .sl 1 [.str s] l] 0 env0 = R at e0 e1
  have hp := fun L => peek_ok (H := H ++ L) hM (getF_old hn L) ht
  have ht := fun L => take_ok (H := H ++ L) (l := .lit) (ts := [.str s]) (b := true) hM hM' hM'' (getF_old hn L) ht (by simp) (by simp [anyS, hs]) hi
  have hias : iasV 1 (.sl 1 [.str s] l) (.int .i64 0) = some (.iptr [.str s]) := rfl
  have a1 : addF 0 1 = 1 := by decide
  simp only [hk, cond_true] at ht
  simp only [z29, q29_0, q29_1, q29_2, q29_3, q29_4, q29_5, q29_6, q29_8, q29_9, q29_10, SIM, ST0, e0, e1, hp, ht, Nat.reduceAdd, Nat.reduceLeDiff, len_sl cc26, lp0, lp1, List.length_cons, List.length_nil, Int.reduceLT, hias, bsl26, setF_old hn, a1, Int.ofNat_eq_natCast, Int.cast_ofNat_Int]

theorem name_ok {M : Memo} (hM : ∀ a, M 19 a = none) (hM' : ∀ a, M 30 a = none) {H : Heap} {n : Nat} {toks : List AV} {lin : Lin} {i : Nat} {p m : Int} {t : List Nat}
    (hn : getF H n = some (curO toks lin i)) (ht : getF toks i = some (tokV 1 p t m)) (hi : i + 1 ≤ natMax) :
    orc CC M 30 [.ptr n 0] H = some (.ret (tokV 1 p t m) (setF H n (curO toks lin (i + 1))) (lenF H)) := by
  refine orc_step cc_mask (T := tget tab) tab_ok (hM' _) ?_
  rw [show tget tab 30 = some z30 by kernel_rfl]
  show cond (Nat.ble 1 512) (finZ CC 30 (lenF H) z30 (z30.sh (orc CC M) (envOf [.ptr n 0] 0 env0) [] { heap := H, esc := lenF H })) none = _
  have e0 : (envOf [.ptr n 0] 0 env0).a.a.a = .ptr n 0 := rfl
  generalize envOf [.ptr n 0] 0 env0 = R at e0
  have hp := fun L => peek_ok (H := H ++ L) hM (getF_old hn L) ht
  have ha : addF (i : Int) 1 = ((i + 1 : Nat) : Int) := addF_i i 1 hi
  simp only [z30, q30_0, q30_1, q30_2, q30_4, q30_5, SIM, ST0, e0, hp, Nat.reduceAdd, Nat.reduceLeDiff, setF_old hn, getF_old hn, ha]
end Go.Proofs
