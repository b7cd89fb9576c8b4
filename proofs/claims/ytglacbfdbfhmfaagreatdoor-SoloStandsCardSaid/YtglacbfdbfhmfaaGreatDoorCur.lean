/- the reader of tokens. Part of the proof of girandolelaw11.SoloStands. -/
import Derived.Test.YtglacbfdbfhmfaaGreatDoorCode0
import Derived.Test.YtglacbfdbfhmfaaGreatDoorB3
set_option linter.unusedVariables false
set_option linter.unusedSimpArgs false
set_option maxRecDepth 100000
namespace Go.Proofs
open Go Go.Abs

/-- a token -/
abbrev tokV (k p : Int) (t : List Nat) (m : Int) : AV := .agg [.int .i64 k, .int .i64 p, .str t, .int .u64 m]
/-- a reader of tokens -/
abbrev curO (toks : List AV) (lin : Lin) (i : Nat) : AObj := .cells [.sl 4 toks lin, .int .i64 (i : Int)]

theorem peek_ok {M : Memo} (hM : ∀ a, M 30 a = none) {H : Heap} {n : Nat} {toks : List AV} {lin : Lin} {i : Nat} {k p m : Int} {t : List Nat}
    (hn : getF H n = some (curO toks lin i)) (ht : getF toks i = some (tokV k p t m)) :
    orc CC M 30 [.ptr n 0] H = some (.ret (tokV k p t m) H (lenF H)) := by
  refine orc_step cc_mask (T := tget tab) tab_ok (hM _) ?_
  rw [show tget tab 30 = some z30 by kernel_rfl]
  show cond (Nat.ble 1 512) (finZ CC 30 (lenF H) z30 (z30.sh (orc CC M) (envOf [.ptr n 0] 0 env0) [] { heap := H, esc := lenF H })) none = _
  have e0 : (envOf [.ptr n 0] 0 env0).a.a.a = .ptr n 0 := rfl
  generalize envOf [.ptr n 0] 0 env0 = R at e0
  simp only [z30, q30_0, q30_1, SIM, ST0, e0, getF_old hn, iasV_i (sz := 4) (lin := lin) ht, Nat.reduceAdd, Nat.reduceLeDiff]

/-- is a text one of some? -/
def anyS (t : List Nat) : List AV → Option Bool
  | [] => some false
  | .str s :: r => cond (strEq s t) (some true) (anyS t r)
  | _ => none

theorem cc26 : CC.P.underlying 26 = some (.slice 9) := by kernel_rfl
theorem len_sl {t e : TypeId} (h : CC.P.underlying t = some (.slice e)) (sz : Nat) (es : List AV) (l : Lin) : lenV CC t (.sl sz es l) = some (.int .i64 (es.length : Int)) := by rw [lenV_eq]; simp [lenAV, h]

theorem is_loop {M : Memo} {H : Heap} {n : Nat} {k p m : Int} {t : List Nat} {ts : List AV} {l : Lin} (hts : ts.length < 1000) : ∀ (d j : Nat), d + j = ts.length → ∀ (fu : Nat), d < fu → ∀ (r : RG) (b : Bool),
    r.a.c.c = .sl 1 ts l → r.a.c.d = .int .i64 (ts.length : Int) → r.a.c.e = .int .i64 (j : Int) → r.a.a.f = .ptr n 0 → getF H n = some (.cells [.int .i64 k, .int .i64 p, .str t, .int .u64 m]) → anyS t (ts.drop j) = some b → ∀ e,
    ∃ r', loopN (q53_10 (orc CC M)) fu r [] ⟨H, e⟩ = some (cond b .ret (.exit 0), r', [], ⟨H, e⟩) ∧ (b = true → r'.a.a.e = .bool b) := by
  intro d
  induction d with
  | zero =>
    intro j hj fu hfu r b h1 h2 h3 h4 hg hb e
    obtain ⟨fu', rfl⟩ : ∃ f, fu = f + 1 := ⟨fu - 1, by omega⟩
    have hjl : j = ts.length := by omega
    subst hjl
    rw [List.drop_length] at hb
    simp only [anyS, Option.some.injEq] at hb
    subst hb
    simp only [loopN, q53_10, q53_5, SIM, ST0, h2, h3, Int.lt_irrefl]
    exact ⟨_, rfl, fun h => by cases h⟩
  | succ d ih =>
    intro j hj fu hfu r b h1 h2 h3 h4 hg hb e
    obtain ⟨fu', rfl⟩ : ∃ f, fu = f + 1 := ⟨fu - 1, by omega⟩
    have hlt : j < ts.length := by omega
    have hd : ts.drop j = ts[j] :: ts.drop (j + 1) := List.drop_eq_getElem_cons hlt
    rw [hd] at hb
    cases hv : ts[j] with
    | str s =>
      rw [hv] at hb
      simp only [anyS] at hb
      have hi : getF ts j = some (.str s) := by rw [getF_eq, List.getElem?_eq_getElem hlt, hv]
      have hc : decide ((j : Int) < (ts.length : Int)) = true := by simp; omega
      have ha : addF (j : Int) 1 = ((j + 1 : Nat) : Int) := addF_i j 1 (by unfold natMax; omega)
      cases hs : strEq s t with
      | true =>
        rw [hs] at hb
        simp only [cond_true, Option.some.injEq] at hb
        subst hb
        simp only [loopN, q53_10, q53_5, q53_6, q53_7, q53_8, q53_9, SIM, ST0, h1, h2, h3, h4, hc, iasV_i (sz := 1) (lin := l) hi, hg, hs]
        exact ⟨_, rfl, fun _ => rfl⟩
      | false =>
        rw [hs] at hb
        simp only [cond_false] at hb
        simp only [loopN, q53_10, q53_5, q53_6, q53_7, q53_8, q53_9, SIM, ST0, h1, h2, h3, h4, hc, iasV_i (sz := 1) (lin := l) hi, hg, hs, ha]
        exact ih (j + 1) (by omega) fu' (by omega) _ b rfl rfl rfl rfl hg hb e
    | _ => rw [hv] at hb; simp [anyS] at hb

theorem is_ok {M : Memo} (hM : ∀ a, M 30 a = none) (hM' : ∀ a, M 53 a = none) {H : Heap} {n : Nat} {toks : List AV} {lin : Lin} {i : Nat} {k p m : Int} {t : List Nat} {ts : List AV} {l : Lin} {b : Bool}
    (hn : getF H n = some (curO toks lin i)) (ht : getF toks i = some (tokV k p t m)) (hts : ts.length < 1000) (hb : anyS t ts = some b) :
    orc CC M 53 [.ptr n 0, .sl 1 ts l] H = some (.ret (.bool (cond (decide (k = 3) || decide (k = 4)) b false)) H (lenF H)) := by
  refine orc_step cc_mask (T := tget tab) tab_ok (hM' _) ?_
  rw [show tget tab 53 = some z53 by kernel_rfl]
  show cond (Nat.ble 2 512) (finZ CC 53 (lenF H) z53 (z53.sh (orc CC M) (envOf [.ptr n 0, .sl 1 ts l] 0 env0) [] { heap := H, esc := lenF H })) none = _
  have e0 : (envOf [.ptr n 0, .sl 1 ts l] 0 env0).a.a.a = .ptr n 0 := rfl
  have e1 : (envOf [.ptr n 0, .sl 1 ts l] 0 env0).a.a.b = .sl 1 ts l := rfl
  generalize envOf [.ptr n 0, .sl 1 ts l] 0 env0 = R at e0 e1
  have hcs : getF (H ++ [.cells [.int .i64 k, .int .i64 p, .str t, .int .u64 m]]) (lenF H) = some (.cells [.int .i64 k, .int .i64 p, .str t, .int .u64 m]) := by rw [getF_app0, getF_0]
  obtain ⟨f, hf⟩ := sk (P := fun r => r.a.c.c = .sl 1 ts l ∧ r.a.c.d = .int .i64 (ts.length : Int) ∧ r.a.c.e = .int .i64 0 ∧ r.a.a.f = .ptr (lenF H) 0)
    fun r hr => is_loop (M := M) hts ts.length 0 (by omega) 100000 (by omega) r b hr.1 hr.2.1 hr.2.2.1 hr.2.2.2 hcs hb (lenF H)
  have hf1 := fun r h => (hf r h).1
  have hf2 := fun r h => (hf r h).2
  clear hf
  cases b <;> cases h3 : decide (k = 3) <;> cases h4 : decide (k = 4) <;>
    simp only [z53, q53_0, q53_1, q53_2, q53_3, q53_4, q53_11, SIM, ST0, e0, e1, peek_ok hM hn ht, len_sl cc26, h3, h4, Nat.reduceAdd, Nat.reduceLeDiff, Bool.or_true, Bool.true_or, Bool.or_false, Bool.false_or, hf1, hf2, and_self]

theorem take_ok {M : Memo} (hM : ∀ a, M 30 a = none) (hM' : ∀ a, M 53 a = none) (hM'' : ∀ a, M 74 a = none) {H : Heap} {n : Nat} {toks : List AV} {lin : Lin} {i : Nat} {k p m : Int} {t : List Nat} {ts : List AV} {l : Lin} {b : Bool}
    (hn : getF H n = some (curO toks lin i)) (ht : getF toks i = some (tokV k p t m)) (hts : ts.length < 1000) (hb : anyS t ts = some b) (hi : i + 1 ≤ natMax) :
    orc CC M 74 [.ptr n 0, .sl 1 ts l] H = some (cond (cond (decide (k = 3) || decide (k = 4)) b false) (.ret (.tuple [tokV k p t m, .bool true]) (setF H n (curO toks lin (i + 1))) (lenF H)) (.ret (.tuple [tokV k p t m, .bool false]) H (lenF H))) := by
  refine orc_step cc_mask (T := tget tab) tab_ok (hM'' _) ?_
  rw [show tget tab 74 = some z74 by kernel_rfl]
  show cond (Nat.ble 2 512) (finZ CC 74 (lenF H) z74 (z74.sh (orc CC M) (envOf [.ptr n 0, .sl 1 ts l] 0 env0) [] { heap := H, esc := lenF H })) none = _
  have e0 : (envOf [.ptr n 0, .sl 1 ts l] 0 env0).a.a.a = .ptr n 0 := rfl
  have e1 : (envOf [.ptr n 0, .sl 1 ts l] 0 env0).a.a.b = .sl 1 ts l := rfl
  generalize envOf [.ptr n 0, .sl 1 ts l] 0 env0 = R at e0 e1
  have hp := fun L => peek_ok (H := H ++ L) hM (getF_old hn L) ht
  have hs := fun L => is_ok (H := H ++ L) (l := l) hM hM' (getF_old hn L) ht hts hb
  have ha : addF (i : Int) 1 = ((i + 1 : Nat) : Int) := addF_i i 1 hi
  generalize cond (decide (k = 3) || decide (k = 4)) b false = c at hs ⊢
  cases c <;>
    simp only [z74, q74_0, q74_1, q74_2, q74_3, q74_4, q74_5, SIM, ST0, e0, e1, hp, hs, Nat.reduceAdd, Nat.reduceLeDiff, getF_old hn, ha, setF_old hn]

theorem lp0 (b : CZ) (r : RG) (ds : Dfs) (s : St) : loopN b 100000 r ds s = seqK (loopN b 99999) (b r ds s) := rfl
theorem lp1 (b : CZ) (r : RG) (ds : Dfs) (s : St) : loopN b 99999 r ds s = seqK (loopN b 99998) (b r ds s) := rfl
theorem bsl26 (s : List Nat) : bslV CC 26 1 [(0, .str s)] = some (.sl 1 [.str s] .lit) := by kernel_rfl

theorem want_ok {M : Memo} (hM : ∀ a, M 30 a = none) (hM' : ∀ a, M 53 a = none) (hM'' : ∀ a, M 74 a = none) (hM3 : ∀ a, M 49 a = none) {H : Heap} {n : Nat} {toks : List AV} {lin : Lin} {i : Nat} {k p m : Int} {t : List Nat} {s : List Nat} {l : Lin}
    (hn : getF H n = some (curO toks lin i)) (ht : getF toks i = some (tokV k p t m)) (hk : (decide (k = 3) || decide (k = 4)) = true) (hs : strEq s t = true) (hi : i + 1 ≤ natMax) :
    orc CC M 49 [.ptr n 0, .sl 1 [.str s] l] H = some (.ret (tokV k p t m) (setF H n (curO toks lin (i + 1))) (lenF H)) := by
  refine orc_step cc_mask (T := tget tab) tab_ok (hM3 _) ?_
  rw [show tget tab 49 = some z49 by kernel_rfl]
  show cond (Nat.ble 2 512) (finZ CC 49 (lenF H) z49 (z49.sh (orc CC M) (envOf [.ptr n 0, .sl 1 [.str s] l] 0 env0) [] { heap := H, esc := lenF H })) none = _
  have e0 : (envOf [.ptr n 0, .sl 1 [.str s] l] 0 env0).a.a.a = .ptr n 0 := rfl
  have e1 : (envOf [.ptr n 0, .sl 1 [.str s] l] 0 env0).a.a.b = .sl 1 [.str s] l := rfl
  generalize envOf [.ptr n 0, .sl 1 [.str s] l] 0 env0 = R at e0 e1
  have hp := fun L => peek_ok (H := H ++ L) hM (getF_old hn L) ht
  have ht := fun L => take_ok (H := H ++ L) (l := .lit) (ts := [.str s]) (b := true) hM hM' hM'' (getF_old hn L) ht (by simp) (by simp [anyS, hs]) hi
  have hias : iasV 1 (.sl 1 [.str s] l) (.int .i64 0) = some (.iptr [.str s]) := rfl
  have a1 : addF 0 1 = 1 := by decide
  simp only [hk, cond_true] at ht
  simp only [z49, q49_0, q49_1, q49_2, q49_3, q49_4, q49_5, q49_6, q49_8, q49_9, q49_10, SIM, ST0, e0, e1, hp, ht, Nat.reduceAdd, Nat.reduceLeDiff, len_sl cc26, lp0, lp1, List.length_cons, List.length_nil, Int.reduceLT, hias, bsl26, setF_old hn, a1, Int.ofNat_eq_natCast, Int.cast_ofNat_Int]

theorem name_ok {M : Memo} (hM : ∀ a, M 30 a = none) (hM' : ∀ a, M 50 a = none) {H : Heap} {n : Nat} {toks : List AV} {lin : Lin} {i : Nat} {p m : Int} {t : List Nat}
    (hn : getF H n = some (curO toks lin i)) (ht : getF toks i = some (tokV 1 p t m)) (hi : i + 1 ≤ natMax) :
    orc CC M 50 [.ptr n 0] H = some (.ret (tokV 1 p t m) (setF H n (curO toks lin (i + 1))) (lenF H)) := by
  refine orc_step cc_mask (T := tget tab) tab_ok (hM' _) ?_
  rw [show tget tab 50 = some z50 by kernel_rfl]
  show cond (Nat.ble 1 512) (finZ CC 50 (lenF H) z50 (z50.sh (orc CC M) (envOf [.ptr n 0] 0 env0) [] { heap := H, esc := lenF H })) none = _
  have e0 : (envOf [.ptr n 0] 0 env0).a.a.a = .ptr n 0 := rfl
  generalize envOf [.ptr n 0] 0 env0 = R at e0
  have hp := fun L => peek_ok (H := H ++ L) hM (getF_old hn L) ht
  have ha : addF (i : Int) 1 = ((i + 1 : Nat) : Int) := addF_i i 1 hi
  simp only [z50, q50_0, q50_1, q50_2, q50_4, q50_5, SIM, ST0, e0, hp, Nat.reduceAdd, Nat.reduceLeDiff, setF_old hn, getF_old hn, ha]
end Go.Proofs
set_option maxRecDepth 100000
namespace Go.Proofs
open Go Go.Abs

/-- a reader's next token, if it is there -/
noncomputable def curK (p : AV) (h : Heap) (k : Nat → List AV → Lin → Nat → Int → Int → List Nat → Int → Option CRes) : Option CRes := match p with
  | .ptr n 0 => match getF h n with
    | some (.cells [.sl sz toks lin, .int .i64 (.ofNat i)]) => cond (Nat.beq sz 4) (match getF toks i with
      | some (.agg [.int .i64 kd, .int .i64 ps, .str t, .int .u64 m]) => k n toks lin i kd ps t m
      | _ => none) none
    | _ => none
  | _ => none

def isKd (k : Int) : Bool := match k with
  | .ofNat n => cond (Nat.beq n 3) true (Nat.beq n 4)
  | _ => false

noncomputable def kTake (args : List AV) (h : Heap) : Option CRes := match args with
  | [p, .sl sz ts _] => curK p h fun n toks lin i kd ps t m => cond (Nat.beq sz 1 && (Nat.ble (lenF ts) 500 && Nat.ble (Nat.succ i) natMax)) (match anyS t ts with
    | some b => cond (cond (isKd kd) b false) (some (.ret (.tuple [tokV kd ps t m, .bool true]) (setF h n (.cells [.sl 4 toks lin, .int .i64 (.ofNat (Nat.succ i))])) (lenF h))) (some (.ret (.tuple [tokV kd ps t m, .bool false]) h (lenF h)))
    | none => none) none
  | _ => none
noncomputable def kIs (args : List AV) (h : Heap) : Option CRes := match args with
  | [p, .sl sz ts _] => curK p h fun n toks lin i kd ps t m => cond (Nat.beq sz 1 && Nat.ble (lenF ts) 500) (match anyS t ts with
    | some b => some (.ret (.bool (cond (isKd kd) b false)) h (lenF h))
    | none => none) none
  | _ => none
noncomputable def kPeek (args : List AV) (h : Heap) : Option CRes := match args with
  | [p] => curK p h fun n toks lin i kd ps t m => some (.ret (tokV kd ps t m) h (lenF h))
  | _ => none
noncomputable def kWant (args : List AV) (h : Heap) : Option CRes := match args with
  | [p, .sl sz [.str s] _] => curK p h fun n toks lin i kd ps t m => cond (Nat.beq sz 1 && (isKd kd && (strEq s t && Nat.ble (Nat.succ i) natMax)))
      (some (.ret (tokV kd ps t m) (setF h n (.cells [.sl 4 toks lin, .int .i64 (.ofNat (Nat.succ i))])) (lenF h))) none
  | _ => none
noncomputable def kName (args : List AV) (h : Heap) : Option CRes := match args with
  | [p] => curK p h fun n toks lin i kd ps t m => cond (eqF kd 1 && Nat.ble (Nat.succ i) natMax)
      (some (.ret (tokV kd ps t m) (setF h n (.cells [.sl 4 toks lin, .int .i64 (.ofNat (Nat.succ i))])) (lenF h))) none
  | _ => none
noncomputable def kCur : Kn := fun f args h =>
  cond (Nat.beq f 74) (kTake args h) (cond (Nat.beq f 53) (kIs args h) (cond (Nat.beq f 30) (kPeek args h) (cond (Nat.beq f 49) (kWant args h) (cond (Nat.beq f 50) (kName args h) none))))

theorem curK_some {p : AV} {h : Heap} {k : Nat → List AV → Lin → Nat → Int → Int → List Nat → Int → Option CRes} {r : CRes} (hx : curK p h k = some r) :
    ∃ n toks lin i kd ps t m, p = .ptr n 0 ∧ getF h n = some (curO toks lin i) ∧ getF toks i = some (tokV kd ps t m) ∧ k n toks lin i kd ps t m = some r := by
  unfold curK at hx
  split at hx
  · rename_i n
    split at hx
    · rename_i sz toks lin i hg
      obtain ⟨h1, h2⟩ := cond_some hx
      have := Nat.eq_of_beq_eq_true h1
      subst this
      split at h2
      · rename_i kd ps t m ht
        exact ⟨n, toks, lin, i, kd, ps, t, m, rfl, hg, ht, h2⟩
      · cases h2
    · cases hx
  · cases hx

theorem isKd_eq (k : Int) : isKd k = (decide (k = 3) || decide (k = 4)) := by
  unfold isKd
  split
  · rename_i n
    rw [cond_eq_ite, nbeq, nbeq, Bool.eq_iff_iff]
    simp
    omega
  · rename_i h
    cases k with
    | ofNat n => exact absurd rfl (h n)
    | negSucc n => rfl

theorem kCur_ok {M : Memo} (h1 : ∀ a, M 30 a = none) (h2 : ∀ a, M 53 a = none) (h3 : ∀ a, M 74 a = none) (h4 : ∀ a, M 49 a = none) (h5 : ∀ a, M 50 a = none) : KnOk CC M kCur := by
  intro f a h r hx _
  unfold kCur at hx
  cases b1 : Nat.beq f 74 with
  | true =>
    rw [b1] at hx
    have := Nat.eq_of_beq_eq_true b1
    subst this
    simp only [cond_true] at hx
    unfold kTake at hx
    split at hx
    · rename_i p sz ts l
      obtain ⟨n, toks, lin, i, kd, ps, t, m, rfl, hg, ht, hy⟩ := curK_some hx
      clear hx
      obtain ⟨c1, hx⟩ := cond_some hy
      clear hy
      simp only [Bool.and_eq_true, nble, nbeq, decide_eq_true_eq, lenF_eq, Nat.succ_eq_add_one] at c1
      obtain ⟨rfl, c2, c3⟩ := c1
      split at hx
      · rename_i b hb
        rw [take_ok h1 h2 h3 hg ht (by omega) hb c3, ← isKd_eq]
        generalize cond (isKd kd) b false = c at hx ⊢
        cases c <;> exact hx
      · cases hx
    · cases hx
  | false =>
  rw [b1] at hx
  cases b2 : Nat.beq f 53 with
  | true =>
    rw [b2] at hx
    have := Nat.eq_of_beq_eq_true b2
    subst this
    simp only [cond_true, cond_false] at hx
    unfold kIs at hx
    split at hx
    · rename_i p sz ts l
      obtain ⟨n, toks, lin, i, kd, ps, t, m, rfl, hg, ht, hy⟩ := curK_some hx
      clear hx
      obtain ⟨c1, hx⟩ := cond_some hy
      clear hy
      simp only [Bool.and_eq_true, nble, nbeq, decide_eq_true_eq, lenF_eq, Nat.succ_eq_add_one] at c1
      obtain ⟨rfl, c2⟩ := c1
      split at hx
      · rename_i b hb
        rw [is_ok h1 h2 hg ht (by omega) hb, ← isKd_eq]
        exact hx
      · cases hx
    · cases hx
  | false =>
  rw [b2] at hx
  cases b3 : Nat.beq f 30 with
  | true =>
    rw [b3] at hx
    have := Nat.eq_of_beq_eq_true b3
    subst this
    simp only [cond_true, cond_false] at hx
    unfold kPeek at hx
    split at hx
    · obtain ⟨n, toks, lin, i, kd, ps, t, m, rfl, hg, ht, hx⟩ := curK_some hx
      rw [peek_ok h1 hg ht]
      exact hx
    · cases hx
  | false =>
  rw [b3] at hx
  cases b4 : Nat.beq f 49 with
  | true =>
    rw [b4] at hx
    have := Nat.eq_of_beq_eq_true b4
    subst this
    simp only [cond_true, cond_false] at hx
    unfold kWant at hx
    split at hx
    · rename_i p sz s l
      obtain ⟨n, toks, lin, i, kd, ps, t, m, rfl, hg, ht, hy⟩ := curK_some hx
      clear hx
      obtain ⟨c1, hx⟩ := cond_some hy
      clear hy
      simp only [Bool.and_eq_true, nble, nbeq, decide_eq_true_eq, Nat.succ_eq_add_one] at c1
      obtain ⟨rfl, c2, c3, c4⟩ := c1
      rw [want_ok h1 h2 h3 h4 hg ht (by rw [← isKd_eq]; exact c2) c3 c4]
      exact hx
    · cases hx
  | false =>
  rw [b4] at hx
  cases b5 : Nat.beq f 50 with
  | true =>
    rw [b5] at hx
    have := Nat.eq_of_beq_eq_true b5
    subst this
    simp only [cond_true, cond_false] at hx
    unfold kName at hx
    split at hx
    · obtain ⟨n, toks, lin, i, kd, ps, t, m, rfl, hg, ht, hy⟩ := curK_some hx
      clear hx
      obtain ⟨c1, hx⟩ := cond_some hy
      clear hy
      simp only [Bool.and_eq_true, nble, decide_eq_true_eq, Nat.succ_eq_add_one, eqF_eq] at c1
      obtain ⟨rfl, c2⟩ := c1
      rw [name_ok h1 h5 hg ht c2]
      exact hx
    · cases hx
  | false => rw [b5] at hx; cases hx
end Go.Proofs
