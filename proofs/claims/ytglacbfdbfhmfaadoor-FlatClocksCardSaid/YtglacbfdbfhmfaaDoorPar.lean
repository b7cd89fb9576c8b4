/- expressions. Part of the proof of girandolelaw08.FlatClocks. -/
import Derived.Test.YtglacbfdbfhmfaaDoorLex
set_option linter.unusedVariables false
set_option linter.unusedSimpArgs false
set_option maxRecDepth 100000
namespace Go.Proofs
open Go Go.Abs

/-- an expression: its kind, where it begins, its number, name, 'off', kids -/
inductive Ex where
  | mk (k p : Nat) (n : Int) (s : List Nat) (b : Bool) (kids : List Ex)

def Ex.k : Ex → Nat | .mk k _ _ _ _ _ => k
def Ex.p : Ex → Nat | .mk _ p _ _ _ _ => p
def Ex.n : Ex → Int | .mk _ _ n _ _ _ => n
def Ex.s : Ex → List Nat | .mk _ _ _ s _ _ => s
def Ex.b : Ex → Bool | .mk _ _ _ _ b _ => b
def Ex.kids : Ex → List Ex | .mk _ _ _ _ _ l => l

def linK (k n : Nat) : Lin := cond (Nat.beq k 12) .dead (cond ((Nat.beq k 13 || Nat.beq k 14) && Nat.ble 2 n) .dead .lit)
def kidsV (k : Nat) : List AV → AV
  | [] => .nils
  | a :: l => .sl 6 (a :: l) (linK k (l.length + 1))
mutual
def Ex.v : Ex → AV
  | .mk k p n s b kids => .agg [.int .i64 (k : Int), .int .i64 (p : Int), .int .i64 n, .str s, .bool b, kidsV k (exL kids)]
def exL : List Ex → List AV
  | [] => []
  | a :: l => a.v :: exL l
end
def Ex.kv (e : Ex) : AV := kidsV e.k (exL e.kids)

theorem exL_map : ∀ l : List Ex, exL l = l.map Ex.v
  | [] => by simp [exL]
  | a :: l => by simp [exL, exL_map l]
theorem ex_cells (e : Ex) : AV.cells e.v = [.int .i64 (e.k : Int), .int .i64 (e.p : Int), .int .i64 e.n, .str e.s, .bool e.b, e.kv] := by cases e; rfl
theorem ex_fold (e : Ex) : AV.agg [.int .i64 (e.k : Int), .int .i64 (e.p : Int), .int .i64 e.n, .str e.s, .bool e.b, e.kv] = e.v := by cases e; rfl
theorem linN_K (k n : Nat) : linN (linK k n) = true := by unfold linK; cases Nat.beq k 12 <;> cases (Nat.beq k 13 || Nat.beq k 14) && Nat.ble 2 n <;> rfl
theorem noN_kids {k : Nat} {l : List AV} (h : noNL l = true) : noN (kidsV k l) = true := by
  cases l with
  | nil => rfl
  | cons a l => rw [kidsV, noN_sl, linN_K, h]; rfl
mutual
theorem ex_noN : ∀ e : Ex, noN e.v = true
  | .mk k p n s b kids => by
    simp only [Ex.v, noN_agg, noNL_cons, noNL_nil, noN_int, noN_str, noN_bool, noN_kids (exL_noN kids), cond_true]
theorem exL_noN : ∀ l : List Ex, noNL (exL l) = true
  | [] => rfl
  | a :: l => by simp only [exL, noNL_cons, ex_noN a, exL_noN l, cond_true]
end
theorem kv_noN (e : Ex) : noN e.kv = true := noN_kids (exL_noN _)
theorem kv_one (e : Ex) : AV.one e.kv = true := by
  unfold Ex.kv
  cases exL e.kids <;> rfl
theorem same_kids {k : Nat} {l : List AV} (h : sameL l l = true) : AV.same (kidsV k l) (kidsV k l) = true := by
  cases l with
  | nil => simp [kidsV, AV.same]
  | cons a l => simp [kidsV, AV.same, h]
mutual
theorem ex_same : ∀ e : Ex, AV.same e.v e.v = true
  | .mk k p n s b kids => by
    simp [Ex.v, AV.same, sameL, same_kids (exL_same kids)]
theorem exL_same : ∀ l : List Ex, sameL (exL l) (exL l) = true
  | [] => by simp [exL, sameL]
  | a :: l => by simp [exL, sameL, ex_same a, exL_same l]
end

/-- where a tree stands in memory -/
abbrev exO (e : Ex) : AObj := .cells [.int .i64 (e.k : Int), .int .i64 (e.p : Int), .int .i64 e.n, .str e.s, .bool e.b, e.kv]

theorem ex_form (e : Ex) : ∃ (k p n : Int) (s : List Nat) (b : Bool) (kv : AV), e.v = .agg [.int .i64 k, .int .i64 p, .int .i64 n, .str s, .bool b, kv] ∧ (kv = .nils ∨ ∃ l q, kv = .sl 6 l q) := by
  cases e with
  | mk k p n s b kids =>
    refine ⟨k, p, n, s, b, kidsV k (exL kids), by simp only [Ex.v], ?_⟩
    cases exL kids with
    | nil => exact .inl rfl
    | cons a l => exact .inr ⟨_, _, rfl⟩
theorem bx_1 (a : Ex) : bslV CC 81 1 [(0, a.v)] = some (.sl 6 [a.v] .lit) := by
  obtain ⟨k, p, n, s, b, kv, h, rfl | ⟨l, q, rfl⟩⟩ := ex_form a <;> rw [h] <;> kernel_rfl
theorem bx_2 (a b : Ex) : bslV CC 81 2 [(0, a.v), (1, b.v)] = some (.sl 6 [a.v, b.v] .lit) := by
  obtain ⟨k, p, n, s, b', kv, h, rfl | ⟨l, q, rfl⟩⟩ := ex_form a <;> obtain ⟨k', p', n', s', b'', kv', h', rfl | ⟨l', q', rfl⟩⟩ := ex_form b <;> rw [h, h'] <;> kernel_rfl
theorem bx_3 (a b c : Ex) : bslV CC 81 3 [(0, a.v), (1, b.v), (2, c.v)] = some (.sl 6 [a.v, b.v, c.v] .lit) := by
  obtain ⟨k, p, n, s, b', kv, h, rfl | ⟨l, q, rfl⟩⟩ := ex_form a <;> obtain ⟨k', p', n', s', b'', kv', h', rfl | ⟨l', q', rfl⟩⟩ := ex_form b <;> obtain ⟨k2, p2, n2, s2, b2, kv2, h2, rfl | ⟨l2, q2, rfl⟩⟩ := ex_form c <;> rw [h, h', h2] <;> kernel_rfl
theorem be_015 (a b : Int) (l : List AV) : buildAV CC 83 [(0, .int .i64 a), (1, .int .i64 b), (5, .sl 6 l .lit)] = some (.agg [.int .i64 a, .int .i64 b, .int .i64 0, .str [], .bool false, .sl 6 l .lit]) := by kernel_rfl
theorem be_0135 (a b : Int) (s : List Nat) (l : List AV) : buildAV CC 83 [(0, .int .i64 a), (1, .int .i64 b), (3, .str s), (5, .sl 6 l .lit)] = some (.agg [.int .i64 a, .int .i64 b, .int .i64 0, .str s, .bool false, .sl 6 l .lit]) := by kernel_rfl
theorem be_01345 (a b : Int) (s : List Nat) (o : Bool) (l : List AV) : buildAV CC 83 [(0, .int .i64 a), (1, .int .i64 b), (3, .str s), (4, .bool o), (5, .sl 6 l .lit)] = some (.agg [.int .i64 a, .int .i64 b, .int .i64 0, .str s, .bool o, .sl 6 l .lit]) := by kernel_rfl
theorem be_01 (a b : Int) : buildAV CC 83 [(0, .int .i64 a), (1, .int .i64 b)] = some (.agg [.int .i64 a, .int .i64 b, .int .i64 0, .str [], .bool false, .nils]) := by kernel_rfl
theorem be_012 (a b n : Int) : buildAV CC 83 [(0, .int .i64 a), (1, .int .i64 b), (2, .int .i64 n)] = some (.agg [.int .i64 a, .int .i64 b, .int .i64 n, .str [], .bool false, .nils]) := by kernel_rfl
theorem be_013 (a b : Int) (s : List Nat) : buildAV CC 83 [(0, .int .i64 a), (1, .int .i64 b), (3, .str s)] = some (.agg [.int .i64 a, .int .i64 b, .int .i64 0, .str s, .bool false, .nils]) := by kernel_rfl

/-- all that is used of trees by the runs -/
theorem EXS : (∀ e : Ex, AV.cells e.v = [.int .i64 (e.k : Int), .int .i64 (e.p : Int), .int .i64 e.n, .str e.s, .bool e.b, e.kv]) ∧ (∀ e : Ex, AV.agg [.int .i64 (e.k : Int), .int .i64 (e.p : Int), .int .i64 e.n, .str e.s, .bool e.b, e.kv] = e.v) ∧
    (∀ e : Ex, noN e.v = true) ∧ (∀ e : Ex, noN e.kv = true) ∧ (∀ e : Ex, AV.one e.kv = true) ∧ (∀ e : Ex, AV.same e.v e.v = true) ∧
    (∀ a : Ex, bslV CC 81 1 [(0, a.v)] = some (.sl 6 [a.v] .lit)) ∧ (∀ a b : Ex, bslV CC 81 2 [(0, a.v), (1, b.v)] = some (.sl 6 [a.v, b.v] .lit)) ∧ (∀ a b c : Ex, bslV CC 81 3 [(0, a.v), (1, b.v), (2, c.v)] = some (.sl 6 [a.v, b.v, c.v] .lit)) :=
  ⟨ex_cells, ex_fold, ex_noN, kv_noN, kv_one, ex_same, bx_1, bx_2, bx_3⟩
theorem BES : (∀ (a b : Int) (l : List AV), buildAV CC 83 [(0, .int .i64 a), (1, .int .i64 b), (5, .sl 6 l .lit)] = some (.agg [.int .i64 a, .int .i64 b, .int .i64 0, .str [], .bool false, .sl 6 l .lit])) ∧
    (∀ (a b : Int) (s : List Nat) (l : List AV), buildAV CC 83 [(0, .int .i64 a), (1, .int .i64 b), (3, .str s), (5, .sl 6 l .lit)] = some (.agg [.int .i64 a, .int .i64 b, .int .i64 0, .str s, .bool false, .sl 6 l .lit])) ∧
    (∀ (a b : Int) (s : List Nat) (o : Bool) (l : List AV), buildAV CC 83 [(0, .int .i64 a), (1, .int .i64 b), (3, .str s), (4, .bool o), (5, .sl 6 l .lit)] = some (.agg [.int .i64 a, .int .i64 b, .int .i64 0, .str s, .bool o, .sl 6 l .lit])) ∧
    (∀ a b : Int, buildAV CC 83 [(0, .int .i64 a), (1, .int .i64 b)] = some (.agg [.int .i64 a, .int .i64 b, .int .i64 0, .str [], .bool false, .nils])) ∧
    (∀ a b n : Int, buildAV CC 83 [(0, .int .i64 a), (1, .int .i64 b), (2, .int .i64 n)] = some (.agg [.int .i64 a, .int .i64 b, .int .i64 n, .str [], .bool false, .nils])) ∧
    (∀ (a b : Int) (s : List Nat), buildAV CC 83 [(0, .int .i64 a), (1, .int .i64 b), (3, .str s)] = some (.agg [.int .i64 a, .int .i64 b, .int .i64 0, .str s, .bool false, .nils])) :=
  ⟨be_015, be_0135, be_01345, be_01, be_012, be_013⟩

theorem getF_so {α : Type} {h : List α} {n : Nat} (hn : n < lenF h) (v : α) (l : List α) : getF (setF h n v ++ l) n = some v := by
  rw [lenF_eq] at hn
  rw [getF_eq, setF_eq, List.getElem?_append_left (by simpa using hn)]
  simp [hn]
theorem getF_so0 {α : Type} {h : List α} {n : Nat} (hn : n < lenF h) (v : α) : getF (setF h n v) n = some v := by
  have := getF_so hn v []
  simpa using this
theorem setF_so {α : Type} {h : List α} {n : Nat} (hn : n < lenF h) (v w : α) (l : List α) : setF (setF h n v ++ l) n w = setF h n w ++ l := by
  rw [lenF_eq] at hn
  rw [setF_eq, setF_eq, setF_eq, List.set_append_left _ _ (by simpa using hn), List.set_set]

/-- a call of the reader's: what it gives, where the reader stands then -/
abbrev Runs (M : Memo) (f : Nat) (args : List AV) (n : Nat) (toks : List AV) (lin : Lin) (i : Nat) (v : AV) (j : Nat) : Prop :=
  ∀ H : Heap, getF H n = some (curO toks lin i) → orc CC M f args H = some (.ret v (setF H n (curO toks lin j)) (lenF H))

theorem Runs.of {M : Memo} {f : Nat} {args : List AV} {n : Nat} {toks : List AV} {lin : Lin} {i : Nat} {v : AV} {j : Nat}
    (h : ∀ H : Heap, n < lenF H → orc CC M f args (setF H n (curO toks lin i)) = some (.ret v (setF H n (curO toks lin j)) (lenF H))) : Runs M f args n toks lin i v j := by
  intro H hn
  have := h H (by rw [lenF_eq]; exact getF_lt hn)
  rwa [setF_self hn] at this
end Go.Proofs
set_option maxRecDepth 100000
namespace Go.Proofs
open Go Go.Abs

/-- the reader's and the parser's functions -/
def parF (f : Nat) : Bool := [19, 33, 40, 29, 30, 73, 98, 101, 102, 43, 59, 100, 44, 60, 72, 79, 80, 88, 92, 95, 96, 97, 99, 41, 31, 32, 34, 42, 18, 26, 17, 16, 45, 19, 28].any (Nat.beq f)
def ParM (M : Memo) : Prop := ∀ f a, parF f = true → M f a = none
theorem parM_of : ∀ {l : List (FuncId × List AV × AV)}, l.all (fun e => !parF e.1) = true → ParM (memoL l)
  | [], _, f, a, _ => rfl
  | (g, b, v) :: r, h, f, a, hf => by
    simp only [List.all_cons, Bool.and_eq_true] at h
    have hne : Nat.beq g f = false := by
      cases hb : Nat.beq g f with
      | false => rfl
      | true =>
        have := Nat.eq_of_beq_eq_true hb
        subst this
        rw [hf] at h; exact absurd h.1 (by decide)
    show cond (Nat.beq g f) _ (memoL r f a) = none
    rw [hne]
    exact parM_of h.2 f a hf

def isW (x : TkR) (ws : List (List Nat)) : Bool := cond (Nat.beq x.k 3 || Nat.beq x.k 4) (anyW x.t ws) false

section
variable {M : Memo} {toks : List AV} {lin : Lin} {n i : Nat} {x : TkR}

theorem kd_eq (x : TkR) : (decide ((x.k : Int) = 3) || decide ((x.k : Int) = 4)) = (Nat.beq x.k 3 || Nat.beq x.k 4) := by
  rw [show decide ((x.k : Int) = 3) = Nat.beq x.k 3 from cie x.k 3, show decide ((x.k : Int) = 4) = Nat.beq x.k 4 from cie x.k 4]

theorem take_t (m : ParM M) (hx : getF toks i = some x.v) (hi : i + 1 ≤ natMax) {ws : List (List Nat)} {wa : List AV} (hw : wa = ws.map .str) (hl : wa.length < 1000) (h : isW x ws = true) (l : Lin) :
    ∀ H, getF H n = some (curO toks lin i) → orc CC M 40 [.ptr n 0, .sl 1 wa l] H = some (.ret (.tuple [x.v, .bool true]) (setF H n (curO toks lin (i + 1))) (lenF H)) := by
  intro H hn
  have := take_ok (fun a => m 19 a rfl) (fun a => m 33 a rfl) (fun a => m 40 a rfl) (l := l) hn hx hl (hw ▸ anyW_eq x.t ws) hi
  rw [this, kd_eq]
  unfold isW at h
  rw [h]; rfl
theorem take_f (m : ParM M) (hx : getF toks i = some x.v) (hi : i + 1 ≤ natMax) {ws : List (List Nat)} {wa : List AV} (hw : wa = ws.map .str) (hl : wa.length < 1000) (h : isW x ws = false) (l : Lin) :
    ∀ H, getF H n = some (curO toks lin i) → orc CC M 40 [.ptr n 0, .sl 1 wa l] H = some (.ret (.tuple [x.v, .bool false]) H (lenF H)) := by
  intro H hn
  have := take_ok (fun a => m 19 a rfl) (fun a => m 33 a rfl) (fun a => m 40 a rfl) (l := l) hn hx hl (hw ▸ anyW_eq x.t ws) hi
  rw [this, kd_eq]
  unfold isW at h
  rw [h]; rfl
theorem is_w (m : ParM M) (hx : getF toks i = some x.v) {ws : List (List Nat)} {wa : List AV} (hw : wa = ws.map .str) (hl : wa.length < 1000) {b : Bool} (h : isW x ws = b) (l : Lin) :
    ∀ H, getF H n = some (curO toks lin i) → orc CC M 33 [.ptr n 0, .sl 1 wa l] H = some (.ret (.bool b) H (lenF H)) := by
  intro H hn
  have := is_ok (fun a => m 19 a rfl) (fun a => m 33 a rfl) (l := l) hn hx hl (hw ▸ anyW_eq x.t ws)
  rw [this, kd_eq]
  unfold isW at h
  rw [h]
theorem want_w (m : ParM M) (hx : getF toks i = some x.v) (hi : i + 1 ≤ natMax) {s : List Nat} (h : isW x [s] = true) (l : Lin) :
    ∀ H, getF H n = some (curO toks lin i) → orc CC M 29 [.ptr n 0, .sl 1 [.str s] l] H = some (.ret x.v (setF H n (curO toks lin (i + 1))) (lenF H)) := by
  intro H hn
  unfold isW at h
  cases hk : (Nat.beq x.k 3 || Nat.beq x.k 4) with
  | false => rw [hk] at h; cases h
  | true =>
    rw [hk] at h
    simp only [cond_true, anyW] at h
    have hs : strEq s x.t = true := by cases hs : strEq s x.t with
      | true => rfl
      | false => rw [hs] at h; cases h
    exact want_ok (fun a => m 19 a rfl) (fun a => m 33 a rfl) (fun a => m 40 a rfl) (fun a => m 29 a rfl) hn hx (by rw [kd_eq]; exact hk) hs hi
theorem peek_x (m : ParM M) (hx : getF toks i = some x.v) : ∀ H, getF H n = some (curO toks lin i) → orc CC M 19 [.ptr n 0] H = some (.ret x.v H (lenF H)) :=
  fun H hn => peek_ok (fun a => m 19 a rfl) hn hx
theorem name_x (m : ParM M) (hx : getF toks i = some x.v) (hi : i + 1 ≤ natMax) (hk : x.k = 1) : ∀ H, getF H n = some (curO toks lin i) → orc CC M 30 [.ptr n 0] H = some (.ret x.v (setF H n (curO toks lin (i + 1))) (lenF H)) := by
  intro H hn
  have hx' : getF toks i = some (tokV 1 (x.p : Int) x.t (x.m : Int)) := by rw [hx, TkR.v, hk]; rfl
  have := name_ok (fun a => m 19 a rfl) (fun a => m 30 a rfl) hn hx' hi
  rw [this, TkR.v, hk]; rfl
end

theorem bsl26' : ∀ s : List Nat, bslV CC 37 1 [(0, .str s)] = some (.sl 1 [.str s] .lit) := bsl26
theorem bsl26_2 (a b : List Nat) : bslV CC 37 2 [(0, .str a), (1, .str b)] = some (.sl 1 [.str a, .str b] .lit) := by kernel_rfl
theorem bsl26_3 (a b c : List Nat) : bslV CC 37 3 [(0, .str a), (1, .str b), (2, .str c)] = some (.sl 1 [.str a, .str b, .str c] .lit) := by kernel_rfl
theorem bsl26_5 (a b c d e : List Nat) : bslV CC 37 5 [(0, .str a), (1, .str b), (2, .str c), (3, .str d), (4, .str e)] = some (.sl 1 [.str a, .str b, .str c, .str d, .str e] .lit) := by kernel_rfl
theorem bsl26_6 (a b c d e f : List Nat) : bslV CC 37 6 [(0, .str a), (1, .str b), (2, .str c), (3, .str d), (4, .str e), (5, .str f)] = some (.sl 1 [.str a, .str b, .str c, .str d, .str e, .str f] .lit) := by kernel_rfl
theorem B26 : (∀ s : List Nat, bslV CC 37 1 [(0, .str s)] = some (.sl 1 [.str s] .lit)) ∧ (∀ a b : List Nat, bslV CC 37 2 [(0, .str a), (1, .str b)] = some (.sl 1 [.str a, .str b] .lit)) ∧
    (∀ a b c : List Nat, bslV CC 37 3 [(0, .str a), (1, .str b), (2, .str c)] = some (.sl 1 [.str a, .str b, .str c] .lit)) ∧
    (∀ a b c d e : List Nat, bslV CC 37 5 [(0, .str a), (1, .str b), (2, .str c), (3, .str d), (4, .str e)] = some (.sl 1 [.str a, .str b, .str c, .str d, .str e] .lit)) ∧
    (∀ a b c d e f : List Nat, bslV CC 37 6 [(0, .str a), (1, .str b), (2, .str c), (3, .str d), (4, .str e), (5, .str f)] = some (.sl 1 [.str a, .str b, .str c, .str d, .str e, .str f] .lit)) :=
  ⟨bsl26, bsl26_2, bsl26_3, bsl26_5, bsl26_6⟩

/-- is a tree a number, or a truth? -/
def isC (e : Ex) : Bool := Nat.beq e.k 1 || Nat.beq e.k 2
theorem const_ok {M : Memo} (m : ParM M) (e : Ex) (H : Heap) : orc CC M 73 [e.v] H = some (.ret (.bool (isC e)) H (lenF H)) := by
  refine begin_ (z := z73) (m _ _ rfl) (by kernel_rfl) rfl ?_
  have e0 : (envOf [e.v] 0 env0).a.a.a = e.v := rfl
  generalize envOf [e.v] 0 env0 = R at e0
  have hbx : ∀ L, bxV e.v L = some (.cells [.int .i64 (e.k : Int), .int .i64 (e.p : Int), .int .i64 e.n, .str e.s, .bool e.b, e.kv], (.ptr · 0)) := by
    intro L
    have h1 : e.v.low L = true := (noN_ok _ (ex_noN e)).2 L
    unfold bxV
    have h2 : (AV.cells e.v).all AV.one = true := by
      rw [ex_cells]
      simp only [List.all_cons, List.all_nil, kv_one, one_int, one_str, one_bool, Bool.and_self]
    rw [if_pos ⟨h2, h1⟩, ex_cells]
  have c1 : decide ((e.k : Int) = 1) = Nat.beq e.k 1 := cie e.k 1
  have c2 : decide ((e.k : Int) = 2) = Nat.beq e.k 2 := cie e.k 2
  unfold isC
  cases h1 : Nat.beq e.k 1 <;> rw [h1] at c1 <;> cases h2 : Nat.beq e.k 2 <;> rw [h2] at c2 <;>
  simp only [z73, q73_0, q73_1, SIM, ST0, e0, hbx, c1, c2, Nat.reduceAdd, Nat.reduceLeDiff, Bool.or_false]

theorem bxTok (x : TkR) (L : Nat) : bxV x.v L = some (.cells [.int .i64 (x.k : Int), .int .i64 (x.p : Int), .str x.t, .int .u64 (x.m : Int)], (.ptr · 0)) := by
  have h1 : x.v.low L = true := (noN_ok _ (nextT_noN x)).2 L
  unfold bxV
  rw [h1]
  simp [TkR.v, AV.one, AV.cells]

def truE : List Nat := [116, 114, 117, 101]
def truthE (x : TkR) : Ex := .mk 2 x.p (cond (strEq x.t truE) 1 0) [] false []
theorem truth_ok {M : Memo} (m : ParM M) (x : TkR) (H : Heap) : orc CC M 101 [x.v] H = some (.ret (truthE x).v H (lenF H)) := by
  refine begin_ (z := z101) (m _ _ rfl) (by kernel_rfl) rfl ?_
  have e0 : (envOf [x.v] 0 env0).a.a.a = x.v := rfl
  generalize envOf [x.v] 0 env0 = R at e0
  have hb := bxTok x
  have ht : strEq x.t [116, 114, 117, 101] = strEq x.t truE := rfl
  unfold truthE
  cases h : strEq x.t truE <;> rw [h] at ht <;>
  simp only [z101, q101_0, q101_1, q101_2, q101_3, q101_4, SIM, ST0, e0, hb, ht, BES, Nat.reduceAdd, Nat.reduceLeDiff, Ex.v, exL, kidsV, Int.cast_ofNat_Int]

/-- a number, as one with a sign -/
def numbE (x : TkR) (p : Nat) (below : Bool) : Option Ex := cond (Nat.ble x.m 9223372036854775807) (some (.mk 1 p (cond below (-(x.m : Int)) (x.m : Int)) [] false [])) (cond (below && Nat.beq x.m 9223372036854775808) (some (.mk 1 p (-9223372036854775808) [] false [])) none)
theorem neg_i (n : Int) : unOpAV .neg (.int .i64 n) = some (.int .i64 (IntKind.wrap .i64 (-n))) := by rw [← Int.zero_sub]; rfl
theorem cv_i (n : Int) : convertAV CC 48 2 (.int .u64 n) = some (.int .i64 (IntKind.wrap .i64 n)) := by
  have h1 : CC.P.underlying 48 = some (.int .u64) := by kernel_rfl
  have h2 : CC.P.underlying 2 = some (.int .i64) := by kernel_rfl
  simp only [convertAV, h1, h2]
theorem gtr_63 (x : Nat) : binV CC .gtr 48 true (.int .u64 (x : Int)) (.int .u64 9223372036854775807) = some (.bool (!Nat.ble x 9223372036854775807)) := by
  show some (AV.bool (decide ((x : Int) > 9223372036854775807))) = _
  rw [nble]
  congr 2
  rw [Bool.eq_iff_iff]; simp; omega
theorem wrap_neg {n : Nat} (h : n ≤ 9223372036854775808) : IntKind.wrap .i64 (-(n : Int)) = -(n : Int) := by
  simp [IntKind.wrap, IntKind.bits, IntKind.signed, Int.bmod]
  omega

theorem number_ok {M : Memo} (m : ParM M) (x : TkR) (p : Nat) (below : Bool) {e : Ex} (he : numbE x p below = some e) (H : Heap) : orc CC M 98 [x.v, .int .i64 (p : Int), .bool below] H = some (.ret e.v H (lenF H)) := by
  refine begin_ (z := z98) (m _ _ rfl) (by kernel_rfl) rfl ?_
  have e0 : (envOf [x.v, .int .i64 (p : Int), .bool below] 0 env0).a.a.a = x.v := rfl
  have e1 : (envOf [x.v, .int .i64 (p : Int), .bool below] 0 env0).a.a.b = .int .i64 (p : Int) := rfl
  have e2 : (envOf [x.v, .int .i64 (p : Int), .bool below] 0 env0).a.a.c = .bool below := rfl
  generalize envOf [x.v, .int .i64 (p : Int), .bool below] 0 env0 = R at e0 e1 e2
  have hb := bxTok x
  have hg := gtr_63 x.m
  unfold numbE at he
  cases hq : Nat.ble x.m 9223372036854775807 with
  | true =>
    rw [hq] at he hg
    simp only [cond_true, Option.some.injEq] at he
    subst he
    have hle : x.m ≤ 9223372036854775807 := Nat.le_of_ble_eq_true hq
    have hw : IntKind.wrap .i64 (x.m : Int) = (x.m : Int) := wrap_nat (by unfold natMax; omega)
    have hw2 := wrap_neg (n := x.m) (by omega)
    cases below <;>
    simp only [z98, q98_0, q98_1, q98_3, q98_4, q98_5, q98_6, SIM, ST0, e0, e1, e2, hb, hg, cv_i, neg_i, hw, hw2, BES, Nat.reduceAdd, Nat.reduceLeDiff, Ex.v, exL, kidsV, Int.cast_ofNat_Int]
  | false =>
    rw [hq] at he hg
    simp only [cond_false] at he
    cases below with
    | false => cases he
    | true =>
      obtain ⟨h1, h2⟩ := cond_some he
      simp only [Bool.true_and] at h1
      have hm := Nat.eq_of_beq_eq_true h1
      simp only [Option.some.injEq] at h2
      subst h2
      have hw : IntKind.wrap .i64 9223372036854775808 = -9223372036854775808 := by decide
      have hw2 : IntKind.wrap .i64 (-(-9223372036854775808)) = -9223372036854775808 := by decide
      rw [hm] at hb
      simp only [z98, q98_0, q98_1, q98_3, q98_4, q98_5, q98_6, SIM, ST0, e0, e1, e2, hb, hg, cv_i, neg_i, hw, hw2, BES, Nat.reduceAdd, Nat.reduceLeDiff, Ex.v, exL, kidsV, Int.cast_ofNat_Int]
end Go.Proofs
set_option maxRecDepth 100000
namespace Go.Proofs
open Go Go.Abs

inductive PF where
  | expr | arrow | or_ | and_ | not_ | sum | term | unary | when_ | prim
def PF.id : PF → Nat
  | .expr => 44 | .arrow => 60 | .or_ => 72 | .and_ => 80 | .not_ => 88 | .sum => 92 | .term => 95 | .unary => 96 | .when_ => 97 | .prim => 99

abbrev PR := Option (Ex × Nat)
def bnd {β : Type} (r : PR) (k : Ex → Nat → Option β) : Option β := match r with
  | some (a, i) => k a i
  | none => none
noncomputable def tkB {β : Type} (ts : List TkR) (i : Nat) (k : TkR → Option β) : Option β := match getF ts i with
  | some x => k x
  | none => none
noncomputable def wantB {β : Type} (ts : List TkR) (i : Nat) (w : List Nat) (k : Nat → Option β) : Option β := tkB ts i fun x => cond (isW x [w]) (k (i + 1)) none
noncomputable def nameB {β : Type} (ts : List TkR) (i : Nat) (k : TkR → Nat → Option β) : Option β := tkB ts i fun x => cond (Nat.beq x.k 1) (k x (i + 1)) none

noncomputable section
/-- signs that bind to the left -/
def leftL (ts : List TkR) (ws : List (List Nat)) (kid : Nat → PR) : Nat → Ex → Nat → PR
  | 0, _, _ => none
  | k + 1, a, i => tkB ts i fun x => cond (isW x ws) (bnd (kid (i + 1)) fun b j => leftL ts ws kid k (.mk 6 x.p 0 x.t false [a, b]) j) (some (a, i))
def leftS (ts : List TkR) (ws : List (List Nat)) (kid : Nat → PR) (k : Nat) (i : Nat) : PR := bnd (kid i) fun a j => leftL ts ws kid k a j
/-- clocks behind -/
def whenL (ts : List TkR) : Nat → Ex → Nat → PR
  | 0, _, _ => none
  | k + 1, a, i => tkB ts i fun x => cond (isW x [[119,104,101,110]]) (tkB ts (i + 1) fun y => cond (isW y [[110,111,116]])
      (nameB ts (i + 2) fun z j => whenL ts k (.mk 11 x.p 0 z.t true [a]) j) (nameB ts (i + 1) fun z j => whenL ts k (.mk 11 x.p 0 z.t false [a]) j)) (some (a, i))
/-- some, up to a bracket -/
def rowL (ts : List TkR) (one : Nat → PR) : Nat → Nat → Option (List Ex × Nat)
  | 0, _ => none
  | k + 1, i => bnd (one i) fun a j => tkB ts j fun x => cond (isW x [[44]]) (match rowL ts one k (j + 1) with
    | some (l, j') => some (a :: l, j')
    | none => none) (cond (isW x [[41]]) (some ([a], j + 1)) none)
def litS (ts : List TkR) (i : Nat) : PR := tkB ts i fun x => cond (isW x [[116,114,117,101],[102,97,108,115,101]]) (some (truthE x, i + 1))
  (cond (isW x [[45]]) (tkB ts (i + 1) fun y => cond (Nat.beq y.k 2) (match numbE y x.p true with
    | some e => some (e, i + 2)
    | none => none) none) (cond (Nat.beq x.k 2) (match numbE x x.p false with
    | some e => some (e, i + 1)
    | none => none) none))
def awaitS (ts : List TkR) (k p i : Nat) : PR := nameB ts i fun z j => tkB ts j fun x => cond (isW x [[97,102,116,101,114]]) (wantB ts (j + 1) [40] fun j2 => match rowL ts (litS ts) k j2 with
    | some (l, j3) => some (.mk 14 p 0 z.t false l, j3)
    | none => none) (some (.mk 14 p 0 z.t false [], j))
def callS (ts : List TkR) (rec : PF → Nat → PR) (k : Nat) (x : TkR) (i : Nat) : PR := wantB ts i [40] fun j => tkB ts j fun y => cond (isW y [[41]]) (some (.mk 13 x.p 0 x.t false [], j + 1)) (match rowL ts (rec .expr) k j with
    | some (l, j2) => some (.mk 13 x.p 0 x.t false l, j2)
    | none => none)

def ppS (ts : List TkR) (rec : PF → Nat → PR) (k : Nat) : PF → Nat → PR
  | .expr, i => tkB ts i fun x => cond (isW x [[105,102]]) (bnd (rec .expr (i + 1)) fun a i1 => wantB ts i1 [116,104,101,110] fun i2 => bnd (rec .expr i2) fun b i3 => wantB ts i3 [101,108,115,101] fun i4 =>
      bnd (rec .expr i4) fun c i5 => some (.mk 7 x.p 0 [] false [a, b, c], i5)) (rec .arrow i)
  | .arrow, i => bnd (rec .or_ i) fun a i1 => tkB ts i1 fun x => cond (isW x [[45,62]]) (bnd (rec .arrow (i1 + 1)) fun b j => some (.mk 8 x.p 0 [] false [a, b], j))
      (cond (isW x [[102,98,121]]) (cond (isC a) (bnd (rec .arrow (i1 + 1)) fun b j => some (.mk 9 x.p 0 [] false [a, b], j)) none) (some (a, i1)))
  | .or_, i => leftS ts [[111,114],[120,111,114]] (rec .and_) k i
  | .and_, i => leftS ts [[97,110,100]] (rec .not_) k i
  | .not_, i => tkB ts i fun x => cond (isW x [[110,111,116]]) (bnd (rec .not_ (i + 1)) fun a j => some (.mk 5 x.p 0 [] false [a], j))
      (bnd (rec .sum i) fun a i1 => tkB ts i1 fun y => cond (isW y [[61],[60,62],[60],[60,61],[62],[62,61]]) (bnd (rec .sum (i1 + 1)) fun b j => some (.mk 6 y.p 0 y.t false [a, b], j)) (some (a, i1)))
  | .sum, i => leftS ts [[43],[45]] (rec .term) k i
  | .term, i => leftS ts [[42],[47],[109,111,100]] (rec .unary) k i
  | .unary, i => tkB ts i fun x => cond (isW x [[112,114,101]]) (bnd (rec .unary (i + 1)) fun a j => some (.mk 10 x.p 0 [] false [a], j))
      (cond (isW x [[45]]) (tkB ts (i + 1) fun y => cond (Nat.beq y.k 2)
          (tkB ts (i + 2) fun z => cond (strEq z.t [119,104,101,110]) (bnd (rec .unary (i + 1)) fun a j => some (.mk 4 x.p 0 [] false [a], j)) (match numbE y x.p true with
            | some e => some (e, i + 2)
            | none => none))
          (bnd (rec .unary (i + 1)) fun a j => some (.mk 4 x.p 0 [] false [a], j)))
        (rec .when_ i))
  | .when_, i => bnd (rec .prim i) fun a j => whenL ts k a j
  | .prim, i => tkB ts i fun x => cond (Nat.beq x.k 2) (match numbE x x.p false with
        | some e => some (e, i + 1)
        | none => none)
      (cond (Nat.beq x.k 1) (tkB ts (i + 1) fun y => cond (isW y [[40]]) (callS ts rec k x (i + 1)) (some (.mk 3 x.p 0 x.t false [], i + 1)))
      (cond (isW x [[116,114,117,101],[102,97,108,115,101],[109,101,114,103,101],[97,119,97,105,116],[40]])
        (cond (strEq x.t [109,101,114,103,101]) (nameB ts (i + 1) fun z i1 => wantB ts i1 [40] fun i2 => bnd (rec .expr i2) fun a i3 => wantB ts i3 [41] fun i4 => wantB ts i4 [40] fun i5 => bnd (rec .expr i5) fun b i6 => wantB ts i6 [41] fun i7 => some (.mk 12 x.p 0 z.t false [a, b], i7))
        (cond (strEq x.t [97,119,97,105,116]) (awaitS ts k x.p (i + 1))
        (cond (strEq x.t [40]) (bnd (rec .expr (i + 1)) fun a i1 => wantB ts i1 [41] fun i2 => some (a, i2)) (some (truthE x, i + 1))))) none))

def pp (ts : List TkR) (fuel : Nat) : PF → Nat → PR := Nat.rec (motive := fun _ => PF → Nat → PR) (fun _ _ => none) (fun k ih => ppS ts ih k) fuel
end

theorem bnd_some {β : Type} {r : PR} {k : Ex → Nat → Option β} {v : β} (h : bnd r k = some v) : ∃ a i, r = some (a, i) ∧ k a i = some v := by
  unfold bnd at h
  split at h
  · exact ⟨_, _, rfl, h⟩
  · cases h
theorem getF_map {ts : List TkR} {i : Nat} {x : TkR} (h : getF ts i = some x) : getF (ts.map TkR.v) i = some x.v := by
  rw [getF_eq] at h ⊢
  rw [List.getElem?_map, h]; rfl
theorem tkB_some {β : Type} {ts : List TkR} {i : Nat} {k : TkR → Option β} {v : β} (h : tkB ts i k = some v) : ∃ x, getF ts i = some x ∧ k x = some v := by
  unfold tkB at h
  split at h
  · rename_i x hx; exact ⟨x, hx, h⟩
  · cases h
theorem wantB_some {β : Type} {ts : List TkR} {i : Nat} {w : List Nat} {k : Nat → Option β} {v : β} (h : wantB ts i w k = some v) : ∃ x, getF ts i = some x ∧ isW x [w] = true ∧ k (i + 1) = some v := by
  obtain ⟨x, hx, h⟩ := tkB_some h
  obtain ⟨h1, h2⟩ := cond_some h
  exact ⟨x, hx, h1, h2⟩
theorem nameB_some {β : Type} {ts : List TkR} {i : Nat} {k : TkR → Nat → Option β} {v : β} (h : nameB ts i k = some v) : ∃ x, getF ts i = some x ∧ x.k = 1 ∧ k x (i + 1) = some v := by
  obtain ⟨x, hx, h⟩ := tkB_some h
  obtain ⟨h1, h2⟩ := cond_some h
  exact ⟨x, hx, Nat.eq_of_beq_eq_true h1, h2⟩

/-- what is asked of the calls below -/
abbrev PRuns (M : Memo) (ts : List TkR) (lin : Lin) (n : Nat) (g : PF) (i : Nat) (e : Ex) (j : Nat) : Prop := Runs M g.id [.ptr n 0] n (ts.map TkR.v) lin i e.v j

section
variable {M : Memo} {ts : List TkR} {lin : Lin} {n : Nat} {rec : PF → Nat → PR}

theorem lt_of {i : Nat} {x : TkR} (hlen : ts.length ≤ 90000) (hx : getF ts i = some x) : i + 1 ≤ natMax := by
  have := getF_lt hx
  unfold natMax; omega

/-- the calls below, by their numbers -/
structure PBelow (M : Memo) (ts : List TkR) (lin : Lin) (n : Nat) (rec : PF → Nat → PR) : Prop where
  expr : ∀ {i e j}, rec .expr i = some (e, j) → Runs M 44 [.ptr n 0] n (ts.map TkR.v) lin i e.v j
  arrow : ∀ {i e j}, rec .arrow i = some (e, j) → Runs M 60 [.ptr n 0] n (ts.map TkR.v) lin i e.v j
  or_ : ∀ {i e j}, rec .or_ i = some (e, j) → Runs M 72 [.ptr n 0] n (ts.map TkR.v) lin i e.v j
  and_ : ∀ {i e j}, rec .and_ i = some (e, j) → Runs M 80 [.ptr n 0] n (ts.map TkR.v) lin i e.v j
  not_ : ∀ {i e j}, rec .not_ i = some (e, j) → Runs M 88 [.ptr n 0] n (ts.map TkR.v) lin i e.v j
  sum : ∀ {i e j}, rec .sum i = some (e, j) → Runs M 92 [.ptr n 0] n (ts.map TkR.v) lin i e.v j
  term : ∀ {i e j}, rec .term i = some (e, j) → Runs M 95 [.ptr n 0] n (ts.map TkR.v) lin i e.v j
  unary : ∀ {i e j}, rec .unary i = some (e, j) → Runs M 96 [.ptr n 0] n (ts.map TkR.v) lin i e.v j
  when_ : ∀ {i e j}, rec .when_ i = some (e, j) → Runs M 97 [.ptr n 0] n (ts.map TkR.v) lin i e.v j
  prim : ∀ {i e j}, rec .prim i = some (e, j) → Runs M 99 [.ptr n 0] n (ts.map TkR.v) lin i e.v j

theorem expr_run (m : ParM M) (hlen : ts.length ≤ 90000) (hR : PBelow M ts lin n rec) {k i j : Nat} {e : Ex} (h : ppS ts rec k .expr i = some (e, j)) : Runs M 44 [.ptr n 0] n (ts.map TkR.v) lin i e.v j := by
  simp only [ppS] at h
  obtain ⟨x, hx, h⟩ := tkB_some h
  have hx' := getF_map hx
  have hi := lt_of hlen hx
  refine Runs.of fun H hlt => ?_
  refine begin_ (z := z44) (m _ _ rfl) (by kernel_rfl) rfl ?_
  have e0 : (envOf [AV.ptr n 0] 0 env0).a.a.a = .ptr n 0 := rfl
  generalize envOf [AV.ptr n 0] 0 env0 = R at e0
  cases hw : isW x [[105,102]] with
  | false =>
    rw [hw] at h
    have T := take_f (n := n) (lin := lin) m hx' hi (ws := [[105,102]]) (wa := [.str [105,102]]) rfl (by simp) hw
    have ih := hR.arrow h
    simp only [z44, q44_0, q44_1, q44_2, q44_3, SIM, ST0, e0, B26, T, ih, getF_so hlt, setF_so hlt, EXS, Nat.reduceAdd, Nat.reduceLeDiff, TkR.v]
  | true =>
    rw [hw] at h
    simp only [cond_true] at h
    obtain ⟨a, i1, h1, h⟩ := bnd_some h
    obtain ⟨y, hy, hyw, h⟩ := wantB_some h
    obtain ⟨b, i3, h2, h⟩ := bnd_some h
    obtain ⟨w, hww, hw2, h⟩ := wantB_some h
    obtain ⟨c, i5, h3, h⟩ := bnd_some h
    simp only [Option.some.injEq, Prod.mk.injEq] at h
    obtain ⟨rfl, rfl⟩ := h
    have T := take_t (n := n) (lin := lin) m hx' hi (ws := [[105,102]]) (wa := [.str [105,102]]) rfl (by simp) hw
    have W1 := want_w (n := n) (lin := lin) m (getF_map hy) (lt_of hlen hy) hyw
    have W2 := want_w (n := n) (lin := lin) m (getF_map hww) (lt_of hlen hww) hw2
    have ih1 := hR.expr h1
    have ih2 := hR.expr h2
    have ih3 := hR.expr h3
    simp only [z44, q44_0, q44_1, q44_2, q44_3, q44_4, q44_5, q44_6, q44_7, q44_8, SIM, ST0, e0, B26, T, W1, W2, ih1, ih2, ih3, getF_so hlt, setF_so hlt, EXS, BES, Nat.reduceAdd, Nat.reduceLeDiff, TkR.v]
    rfl
end
end Go.Proofs
set_option maxRecDepth 100000
namespace Go.Proofs
open Go Go.Abs

section
variable {M : Memo} {ts : List TkR} {lin : Lin} {n : Nat} {rec : PF → Nat → PR}

theorem arrow_run (m : ParM M) (hlen : ts.length ≤ 90000) (hR : PBelow M ts lin n rec) {k i j : Nat} {e : Ex} (h : ppS ts rec k .arrow i = some (e, j)) : Runs M 60 [.ptr n 0] n (ts.map TkR.v) lin i e.v j := by
  simp only [ppS] at h
  obtain ⟨a, i1, ha, h⟩ := bnd_some h
  obtain ⟨x, hx, h⟩ := tkB_some h
  have hx' := getF_map hx
  have hi := lt_of hlen hx
  have iha := hR.or_ ha
  refine Runs.of fun H hlt => ?_
  refine begin_ (z := z60) (m _ _ rfl) (by kernel_rfl) rfl ?_
  have e0 : (envOf [AV.ptr n 0] 0 env0).a.a.a = .ptr n 0 := rfl
  generalize envOf [AV.ptr n 0] 0 env0 = R at e0
  cases hw : isW x [[45,62]] with
  | true =>
    rw [hw] at h
    simp only [cond_true] at h
    obtain ⟨b, i2, hb, h⟩ := bnd_some h
    simp only [Option.some.injEq, Prod.mk.injEq] at h
    obtain ⟨rfl, rfl⟩ := h
    have T := take_t (n := n) (lin := lin) m hx' hi (ws := [[45,62]]) (wa := [.str [45,62]]) rfl (by simp) hw
    have ihb := hR.arrow hb
    simp only [z60, q60_0, q60_1, q60_2, q60_3, q60_4, SIM, ST0, ST1, e0, B26, T, iha, ihb, getF_so hlt, setF_so hlt, EXS, BES, Nat.reduceAdd, Nat.reduceLeDiff, TkR.v]
    rfl
  | false =>
    rw [hw] at h
    simp only [cond_false] at h
    have T := take_f (n := n) (lin := lin) m hx' hi (ws := [[45,62]]) (wa := [.str [45,62]]) rfl (by simp) hw
    cases hw2 : isW x [[102,98,121]] with
    | true =>
      rw [hw2] at h
      simp only [cond_true] at h
      obtain ⟨hc, h⟩ := cond_some h
      obtain ⟨b, i2, hb, h⟩ := bnd_some h
      simp only [Option.some.injEq, Prod.mk.injEq] at h
      obtain ⟨rfl, rfl⟩ := h
      have I := is_w (n := n) (lin := lin) m hx' (ws := [[102,98,121]]) (wa := [.str [102,98,121]]) rfl (by simp) hw2
      have T2 := take_t (n := n) (lin := lin) m hx' hi (ws := [[102,98,121]]) (wa := [.str [102,98,121]]) rfl (by simp) hw2
      have K := const_ok m a
      rw [hc] at K
      have ihb := hR.arrow hb
      simp only [z60, q60_0, q60_1, q60_2, q60_3, q60_5, q60_6, q60_8, q60_9, SIM, ST0, ST1, e0, B26, T, T2, I, K, iha, ihb, getF_so hlt, setF_so hlt, EXS, BES, Nat.reduceAdd, Nat.reduceLeDiff, TkR.v]
      rfl
    | false =>
      rw [hw2] at h
      simp only [cond_false, Option.some.injEq, Prod.mk.injEq] at h
      obtain ⟨rfl, rfl⟩ := h
      have I := is_w (n := n) (lin := lin) m hx' (ws := [[102,98,121]]) (wa := [.str [102,98,121]]) rfl (by simp) hw2
      simp only [z60, q60_0, q60_1, q60_2, q60_3, q60_5, q60_10, SIM, ST0, ST1, e0, B26, T, I, iha, getF_so hlt, setF_so hlt, EXS, BES, Nat.reduceAdd, Nat.reduceLeDiff, TkR.v]

abbrev zero6 : AObj := .cells [.int .i64 0, .int .i64 0, .int .i64 0, .str [], .bool false, .nils]

theorem left_loop (m : ParM M) (hlen : ts.length ≤ 90000) {g : Nat} {fv : AV} {kid : Nat → PR} {ws : List (List Nat)} {wa : List AV} (hwa : wa = ws.map .str) (hwl : wa.length < 1000) (hcv : ∀ s, callvV CC fv [] s = some (.call g [.ptr n 0]))
    (hk : ∀ {i e j}, kid i = some (e, j) → Runs M g [.ptr n 0] n (ts.map TkR.v) lin i e.v j) {H : Heap} (hlt : n < lenF H) : ∀ (k : Nat) (a : Ex) (i : Nat) (e : Ex) (j : Nat), leftL ts ws kid k a i = some (e, j) → ∀ (fu : Nat), k ≤ fu → ∀ (r : RG) (G : Heap),
    r.a.a.a = .ptr n 0 → r.a.a.b = fv → r.a.a.c = .sl 1 wa .lit → r.a.a.g = .ptr (lenF H) 0 → r.a.a.h = .ptr (lenF H + 1) 0 →
    ∃ r' G', loopN (q79_6 (orc CC M)) fu r [] ⟨setF H n (curO (ts.map TkR.v) lin i) ++ (zero6 :: exO a :: G), lenF H⟩ = some (.ret, r', [], ⟨setF H n (curO (ts.map TkR.v) lin j) ++ (exO e :: G'), lenF H⟩) ∧ r'.a.a.g = .ptr (lenF H) 0 := by
  intro k
  induction k with
  | zero => intro a i e j h; cases h
  | succ k ih =>
    intro a i e j h fu hfu r G h0 h1 h2 h6 h7
    obtain ⟨fu', rfl⟩ : ∃ f, fu = f + 1 := ⟨fu - 1, by omega⟩
    simp only [leftL] at h
    obtain ⟨x, hx, h⟩ := tkB_some h
    have hx' := getF_map hx
    have hi := lt_of hlen hx
    cases hw : isW x ws with
    | false =>
      rw [hw] at h
      simp only [cond_false, Option.some.injEq, Prod.mk.injEq] at h
      obtain ⟨rfl, rfl⟩ := h
      have T := take_f (n := n) (lin := lin) m hx' hi hwa hwl hw
      simp only [loopN, q79_6, q79_2, q79_3, q79_4, SIM, ST0, ST1, h0, h1, h2, h6, h7, T, getF_so hlt, setF_so hlt, EXS, setF_cs, getF_cs, Nat.reduceAdd, Nat.reduceLeDiff, TkR.v]
      exact ⟨_, _, rfl, h6⟩
    | true =>
      rw [hw] at h
      simp only [cond_true] at h
      obtain ⟨b, i2, hb, h⟩ := bnd_some h
      have T := take_t (n := n) (lin := lin) m hx' hi hwa hwl hw
      have K := hk hb
      simp only [loopN, q79_6, q79_2, q79_3, q79_5, SIM, ST0, ST1, h0, h1, h2, h6, h7, T, hcv, K, getF_so hlt, setF_so hlt, EXS, BES, setF_cs, getF_cs, Nat.reduceAdd, Nat.reduceLeDiff, TkR.v]
      refine ih _ _ _ _ h fu' (by omega) _ _ ?_ ?_ ?_ ?_ ?_
      · first | exact h0 | rfl
      · first | exact h1 | rfl
      · first | exact h2 | rfl
      · first | exact h6 | rfl
      · first | exact h7 | rfl

theorem left_run (m : ParM M) (hlen : ts.length ≤ 90000) {g : Nat} {fv : AV} {kid : Nat → PR} {ws : List (List Nat)} {wa : List AV} (hwa : wa = ws.map .str) (hwl : wa.length < 1000) (hcv : ∀ s, callvV CC fv [] s = some (.call g [.ptr n 0]))
    (hk : ∀ {i e j}, kid i = some (e, j) → Runs M g [.ptr n 0] n (ts.map TkR.v) lin i e.v j) {k i j : Nat} {e : Ex} (hk9 : k ≤ 90000) (h : leftS ts ws kid k i = some (e, j)) : Runs M 79 [.ptr n 0, fv, .sl 1 wa .lit] n (ts.map TkR.v) lin i e.v j := by
  obtain ⟨a, i1, ha, h⟩ := bnd_some h
  have iha := hk ha
  refine Runs.of fun H hlt => ?_
  refine begin_ (z := z79) (m _ _ rfl) (by kernel_rfl) rfl ?_
  have e0 : (envOf [AV.ptr n 0, fv, .sl 1 wa .lit] 0 env0).a.a.a = .ptr n 0 := rfl
  have e1 : (envOf [AV.ptr n 0, fv, .sl 1 wa .lit] 0 env0).a.a.b = fv := rfl
  have e2 : (envOf [AV.ptr n 0, fv, .sl 1 wa .lit] 0 env0).a.a.c = .sl 1 wa .lit := rfl
  generalize envOf [AV.ptr n 0, fv, .sl 1 wa .lit] 0 env0 = R at e0 e1 e2
  obtain ⟨f, hf⟩ := sk (P := fun r => r.a.a.a = .ptr n 0 ∧ r.a.a.b = fv ∧ r.a.a.c = .sl 1 wa .lit ∧ r.a.a.g = .ptr (lenF H) 0 ∧ r.a.a.h = .ptr (lenF H + 1) 0)
    fun r hr => left_loop m hlen hwa hwl hcv hk hlt k a i1 e j h 100000 (by omega) r [] hr.1 hr.2.1 hr.2.2.1 hr.2.2.2.1 hr.2.2.2.2
  have pre : ∃ r, (r.a.a.a = .ptr n 0 ∧ r.a.a.b = fv ∧ r.a.a.c = .sl 1 wa .lit ∧ r.a.a.g = .ptr (lenF H) 0 ∧ r.a.a.h = .ptr (lenF H + 1) 0) ∧ z79.sh (orc CC M) R [] ⟨setF H n (curO (ts.map TkR.v) lin i), lenF (setF H n (curO (ts.map TkR.v) lin i))⟩ = blkK 0 (loopN (q79_6 (orc CC M)) 100000 r [] ⟨setF H n (curO (ts.map TkR.v) lin i1) ++ [zero6, exO a], lenF H⟩) := by
    simp only [z79, q79_0, q79_1, SIM, ST0, e0, e1, e2, hcv, iha, getF_so hlt, setF_so hlt, EXS, Nat.reduceAdd, Nat.reduceLeDiff]
    refine ⟨_, ?_, rfl⟩
    exact ⟨by first | rfl | exact e0, by first | rfl | exact e1, by first | rfl | exact e2, rfl, rfl⟩
  obtain ⟨r0, hr0, hpre⟩ := pre
  rw [hpre]
  obtain ⟨G', h1, h2⟩ := hf r0 hr0
  rw [h1]
  simp only [z79, SIM, ST0, h2, EXS, Nat.reduceAdd, Nat.reduceLeDiff]

theorem or__run (m : ParM M) (hlen : ts.length ≤ 90000) (hR : PBelow M ts lin n rec) {k i j : Nat} {e : Ex} (hk : k ≤ 90000) (h : ppS ts rec k .or_ i = some (e, j)) : Runs M 72 [.ptr n 0] n (ts.map TkR.v) lin i e.v j := by
  simp only [ppS] at h
  have L := left_run (fv := .func (.func 80) [.ptr n 0] []) (ws := [[111,114],[120,111,114]]) (wa := [.str [111,114], .str [120,111,114]]) m hlen rfl (by simp) (fun s => by kernel_rfl) hR.and_ hk h
  refine Runs.of fun H hlt => ?_
  refine begin_ (z := z72) (m _ _ rfl) (by kernel_rfl) rfl ?_
  have e0 : (envOf [AV.ptr n 0] 0 env0).a.a.a = .ptr n 0 := rfl
  generalize envOf [AV.ptr n 0] 0 env0 = R at e0
  simp only [z72, q72_0, q72_1, SIM, ST0, e0, B26, L, getF_so hlt, setF_so hlt, EXS, Nat.reduceAdd, Nat.reduceLeDiff]

theorem and__run (m : ParM M) (hlen : ts.length ≤ 90000) (hR : PBelow M ts lin n rec) {k i j : Nat} {e : Ex} (hk : k ≤ 90000) (h : ppS ts rec k .and_ i = some (e, j)) : Runs M 80 [.ptr n 0] n (ts.map TkR.v) lin i e.v j := by
  simp only [ppS] at h
  have L := left_run (fv := .func (.func 88) [.ptr n 0] []) (ws := [[97,110,100]]) (wa := [.str [97,110,100]]) m hlen rfl (by simp) (fun s => by kernel_rfl) hR.not_ hk h
  refine Runs.of fun H hlt => ?_
  refine begin_ (z := z80) (m _ _ rfl) (by kernel_rfl) rfl ?_
  have e0 : (envOf [AV.ptr n 0] 0 env0).a.a.a = .ptr n 0 := rfl
  generalize envOf [AV.ptr n 0] 0 env0 = R at e0
  simp only [z80, q80_0, q80_1, SIM, ST0, e0, B26, L, getF_so hlt, setF_so hlt, EXS, Nat.reduceAdd, Nat.reduceLeDiff]

theorem sum_run (m : ParM M) (hlen : ts.length ≤ 90000) (hR : PBelow M ts lin n rec) {k i j : Nat} {e : Ex} (hk : k ≤ 90000) (h : ppS ts rec k .sum i = some (e, j)) : Runs M 92 [.ptr n 0] n (ts.map TkR.v) lin i e.v j := by
  simp only [ppS] at h
  have L := left_run (fv := .func (.func 95) [.ptr n 0] []) (ws := [[43],[45]]) (wa := [.str [43], .str [45]]) m hlen rfl (by simp) (fun s => by kernel_rfl) hR.term hk h
  refine Runs.of fun H hlt => ?_
  refine begin_ (z := z92) (m _ _ rfl) (by kernel_rfl) rfl ?_
  have e0 : (envOf [AV.ptr n 0] 0 env0).a.a.a = .ptr n 0 := rfl
  generalize envOf [AV.ptr n 0] 0 env0 = R at e0
  simp only [z92, q92_0, q92_1, SIM, ST0, e0, B26, L, getF_so hlt, setF_so hlt, EXS, Nat.reduceAdd, Nat.reduceLeDiff]

theorem term_run (m : ParM M) (hlen : ts.length ≤ 90000) (hR : PBelow M ts lin n rec) {k i j : Nat} {e : Ex} (hk : k ≤ 90000) (h : ppS ts rec k .term i = some (e, j)) : Runs M 95 [.ptr n 0] n (ts.map TkR.v) lin i e.v j := by
  simp only [ppS] at h
  have L := left_run (fv := .func (.func 96) [.ptr n 0] []) (ws := [[42],[47],[109,111,100]]) (wa := [.str [42], .str [47], .str [109,111,100]]) m hlen rfl (by simp) (fun s => by kernel_rfl) hR.unary hk h
  refine Runs.of fun H hlt => ?_
  refine begin_ (z := z95) (m _ _ rfl) (by kernel_rfl) rfl ?_
  have e0 : (envOf [AV.ptr n 0] 0 env0).a.a.a = .ptr n 0 := rfl
  generalize envOf [AV.ptr n 0] 0 env0 = R at e0
  simp only [z95, q95_0, q95_1, SIM, ST0, e0, B26, L, getF_so hlt, setF_so hlt, EXS, Nat.reduceAdd, Nat.reduceLeDiff]

theorem not__run (m : ParM M) (hlen : ts.length ≤ 90000) (hR : PBelow M ts lin n rec) {k i j : Nat} {e : Ex} (h : ppS ts rec k .not_ i = some (e, j)) : Runs M 88 [.ptr n 0] n (ts.map TkR.v) lin i e.v j := by
  simp only [ppS] at h
  obtain ⟨x, hx, h⟩ := tkB_some h
  have hx' := getF_map hx
  have hi := lt_of hlen hx
  refine Runs.of fun H hlt => ?_
  refine begin_ (z := z88) (m _ _ rfl) (by kernel_rfl) rfl ?_
  have e0 : (envOf [AV.ptr n 0] 0 env0).a.a.a = .ptr n 0 := rfl
  generalize envOf [AV.ptr n 0] 0 env0 = R at e0
  cases hw : isW x [[110,111,116]] with
  | true =>
    rw [hw] at h
    simp only [cond_true] at h
    obtain ⟨a, i1, ha, h⟩ := bnd_some h
    simp only [Option.some.injEq, Prod.mk.injEq] at h
    obtain ⟨rfl, rfl⟩ := h
    have T := take_t (n := n) (lin := lin) m hx' hi (ws := [[110,111,116]]) (wa := [.str [110,111,116]]) rfl (by simp) hw
    have iha := hR.not_ ha
    simp only [z88, q88_0, q88_1, q88_2, q88_3, SIM, ST0, ST1, e0, B26, T, iha, getF_so hlt, setF_so hlt, EXS, BES, Nat.reduceAdd, Nat.reduceLeDiff, TkR.v]
    rfl
  | false =>
    rw [hw] at h
    simp only [cond_false] at h
    have T := take_f (n := n) (lin := lin) m hx' hi (ws := [[110,111,116]]) (wa := [.str [110,111,116]]) rfl (by simp) hw
    obtain ⟨a, i1, ha, h⟩ := bnd_some h
    obtain ⟨y, hy, h⟩ := tkB_some h
    have hy' := getF_map hy
    have hi1 := lt_of hlen hy
    have iha := hR.sum ha
    cases hw2 : isW y [[61],[60,62],[60],[60,61],[62],[62,61]] with
    | true =>
      rw [hw2] at h
      simp only [cond_true] at h
      obtain ⟨b, i2, hb, h⟩ := bnd_some h
      simp only [Option.some.injEq, Prod.mk.injEq] at h
      obtain ⟨rfl, rfl⟩ := h
      have T2 := take_t (n := n) (lin := lin) m hy' hi1 (ws := [[61],[60,62],[60],[60,61],[62],[62,61]]) (wa := [.str [61], .str [60,62], .str [60], .str [60,61], .str [62], .str [62,61]]) rfl (by simp) hw2
      have ihb := hR.sum hb
      simp only [z88, q88_0, q88_1, q88_2, q88_4, q88_5, q88_6, q88_7, SIM, ST0, ST1, e0, B26, T, T2, iha, ihb, getF_so hlt, setF_so hlt, EXS, BES, Nat.reduceAdd, Nat.reduceLeDiff, TkR.v]
      rfl
    | false =>
      rw [hw2] at h
      simp only [cond_false, Option.some.injEq, Prod.mk.injEq] at h
      obtain ⟨rfl, rfl⟩ := h
      have T2 := take_f (n := n) (lin := lin) m hy' hi1 (ws := [[61],[60,62],[60],[60,61],[62],[62,61]]) (wa := [.str [61], .str [60,62], .str [60], .str [60,61], .str [62], .str [62,61]]) rfl (by simp) hw2
      simp only [z88, q88_0, q88_1, q88_2, q88_4, q88_5, q88_6, q88_8, SIM, ST0, ST1, e0, B26, T, T2, iha, getF_so hlt, setF_so hlt, EXS, BES, Nat.reduceAdd, Nat.reduceLeDiff, TkR.v]

theorem fa_i (k : Nat) (xs : List AV) : faV k (.iptr xs) = cond (Nat.ble k (lenF xs)) (some (.iptr (dropF k xs))) none := rfl

theorem tk_whn (x : TkR) : (zneqS (.str x.t) (.str [119,104,101,110])) = some (.bool (!strEq x.t [119,104,101,110])) := rfl

theorem unary_run (m : ParM M) (hlen : ts.length ≤ 90000) (hR : PBelow M ts lin n rec) {k i j : Nat} {e : Ex} (h : ppS ts rec k .unary i = some (e, j)) : Runs M 96 [.ptr n 0] n (ts.map TkR.v) lin i e.v j := by
  simp only [ppS] at h
  obtain ⟨x, hx, h⟩ := tkB_some h
  have hx' := getF_map hx
  have hi := lt_of hlen hx
  refine Runs.of fun H hlt => ?_
  refine begin_ (z := z96) (m _ _ rfl) (by kernel_rfl) rfl ?_
  have e0 : (envOf [AV.ptr n 0] 0 env0).a.a.a = .ptr n 0 := rfl
  generalize envOf [AV.ptr n 0] 0 env0 = R at e0
  cases hw : isW x [[112,114,101]] with
  | true =>
    rw [hw] at h
    simp only [cond_true] at h
    obtain ⟨a, i1, ha, h⟩ := bnd_some h
    simp only [Option.some.injEq, Prod.mk.injEq] at h
    obtain ⟨rfl, rfl⟩ := h
    have T := take_t (n := n) (lin := lin) m hx' hi (ws := [[112,114,101]]) (wa := [.str [112,114,101]]) rfl (by simp) hw
    have iha := hR.unary ha
    simp only [z96, q96_0, q96_1, q96_2, q96_3, SIM, ST0, ST1, e0, B26, T, iha, getF_so hlt, setF_so hlt, EXS, BES, Nat.reduceAdd, Nat.reduceLeDiff, TkR.v]
    rfl
  | false =>
    rw [hw] at h
    simp only [cond_false] at h
    have T := take_f (n := n) (lin := lin) m hx' hi (ws := [[112,114,101]]) (wa := [.str [112,114,101]]) rfl (by simp) hw
    cases hw2 : isW x [[45]] with
    | false =>
      rw [hw2] at h
      simp only [cond_false] at h
      have T2 := take_f (n := n) (lin := lin) m hx' hi (ws := [[45]]) (wa := [.str [45]]) rfl (by simp) hw2
      have ih := hR.when_ h
      simp only [z96, q96_0, q96_1, q96_2, q96_4, q96_5, q96_6, SIM, ST0, ST1, e0, B26, T, T2, ih, getF_so hlt, setF_so hlt, EXS, BES, Nat.reduceAdd, Nat.reduceLeDiff, TkR.v]
    | true =>
      rw [hw2] at h
      simp only [cond_true] at h
      have T2 := take_t (n := n) (lin := lin) m hx' hi (ws := [[45]]) (wa := [.str [45]]) rfl (by simp) hw2
      obtain ⟨y, hy, h⟩ := tkB_some h
      have hy' := getF_map hy
      have P := peek_x (n := n) (lin := lin) m hy'
      have c2 : decide ((y.k : Int) = 2) = Nat.beq y.k 2 := cie y.k 2
      have ha1 : addF ((i + 1 : Nat) : Int) 1 = ((i + 1 + 1 : Nat) : Int) := addF_i (i + 1) 1 (lt_of hlen hy)
      cases hk2 : Nat.beq y.k 2 with
      | false =>
        rw [hk2] at h c2
        simp only [cond_false] at h
        obtain ⟨a, i1, ha, h⟩ := bnd_some h
        simp only [Option.some.injEq, Prod.mk.injEq] at h
        obtain ⟨rfl, rfl⟩ := h
        have iha := hR.unary ha
        simp only [z96, q96_0, q96_1, q96_2, q96_4, q96_5, q96_7, q96_8, q96_11, SIM, ST0, ST1, e0, B26, T, T2, P, c2, iha, getF_so hlt, setF_so hlt, EXS, BES, Nat.reduceAdd, Nat.reduceLeDiff, TkR.v]
        rfl
      | true =>
        rw [hk2] at h c2
        simp only [cond_true] at h
        obtain ⟨z, hz, h⟩ := tkB_some h
        have hz' := getF_map hz
        have hias := iasV_i (sz := 4) (lin := lin) hz'
        have tb : Nat.testBit 131071 13 = true := by decide
        cases hwh : strEq z.t [119,104,101,110] with
        | true =>
          rw [hwh] at h
          simp only [cond_true] at h
          obtain ⟨a, i1, ha, h⟩ := bnd_some h
          simp only [Option.some.injEq, Prod.mk.injEq] at h
          obtain ⟨rfl, rfl⟩ := h
          have iha := hR.unary ha
          simp only [z96, q96_0, q96_1, q96_2, q96_4, q96_5, q96_7, q96_8, q96_11, SIM, ST0, ST1, e0, B26, T, T2, P, c2, ha1, hias, hwh, fa_i, iha, getF_so hlt, setF_so hlt, EXS, BES, Nat.reduceAdd, Nat.reduceLeDiff, TkR.v]
          rfl
        | false =>
          rw [hwh] at h
          simp only [cond_false] at h
          cases hn : numbE y x.p true with
          | none => rw [hn] at h; cases h
          | some e' =>
            rw [hn] at h
            simp only [Option.some.injEq, Prod.mk.injEq] at h
            obtain ⟨rfl, rfl⟩ := h
            have N := number_ok m y x.p true hn
            simp only [TkR.v] at N
            simp only [z96, q96_0, q96_1, q96_2, q96_4, q96_5, q96_7, q96_8, q96_9, q96_10, SIM, ST0, ST1, e0, B26, T, T2, P, c2, ha1, hias, hwh, fa_i, N, getF_so hlt, setF_so hlt, EXS, BES, Nat.reduceAdd, Nat.reduceLeDiff, TkR.v]
end
end Go.Proofs
set_option maxRecDepth 100000
namespace Go.Proofs
open Go Go.Abs

theorem fldV_a (ag : Option Nat) (off : Nat) (cs : List AV) : fldV ag off (.agg cs) = partV ag cs off := rfl

section
variable {M : Memo} {ts : List TkR} {lin : Lin} {n : Nat} {rec : PF → Nat → PR}

theorem when_loop (m : ParM M) (hlen : ts.length ≤ 90000) {H : Heap} (hlt : n < lenF H) : ∀ (k : Nat) (a : Ex) (i : Nat) (e : Ex) (j : Nat), whenL ts k a i = some (e, j) → ∀ (fu : Nat), k ≤ fu → ∀ (r : RG) (G : Heap),
    r.a.a.a = .ptr n 0 → r.a.a.c = .ptr (lenF H) 0 → r.a.a.d = .ptr (lenF H + 1) 0 →
    ∃ r' G', loopN (q97_7 (orc CC M)) fu r [] ⟨setF H n (curO (ts.map TkR.v) lin i) ++ (zero6 :: exO a :: G), lenF H⟩ = some (.ret, r', [], ⟨setF H n (curO (ts.map TkR.v) lin j) ++ (exO e :: G'), lenF H⟩) ∧ r'.a.a.c = .ptr (lenF H) 0 := by
  intro k
  induction k with
  | zero => intro a i e j h; cases h
  | succ k ih =>
    intro a i e j h fu hfu r G h0 h2 h3
    obtain ⟨fu', rfl⟩ : ∃ f, fu = f + 1 := ⟨fu - 1, by omega⟩
    simp only [whenL] at h
    obtain ⟨x, hx, h⟩ := tkB_some h
    have hx' := getF_map hx
    have hi := lt_of hlen hx
    cases hw : isW x [[119,104,101,110]] with
    | false =>
      rw [hw] at h
      simp only [cond_false, Option.some.injEq, Prod.mk.injEq] at h
      obtain ⟨rfl, rfl⟩ := h
      have T := take_f (n := n) (lin := lin) m hx' hi (ws := [[119,104,101,110]]) (wa := [.str [119,104,101,110]]) rfl (by simp) hw
      simp only [loopN, q97_7, q97_2, q97_3, q97_4, SIM, ST0, ST1, h0, h2, h3, T, B26, getF_so hlt, setF_so hlt, EXS, setF_cs, getF_cs, Nat.reduceAdd, Nat.reduceLeDiff, TkR.v]
      exact ⟨_, _, rfl, by first | exact h2 | rfl⟩
    | true =>
      rw [hw] at h
      simp only [cond_true] at h
      obtain ⟨y, hy, h⟩ := tkB_some h
      have hy' := getF_map hy
      have hi1 := lt_of hlen hy
      have T := take_t (n := n) (lin := lin) m hx' hi (ws := [[119,104,101,110]]) (wa := [.str [119,104,101,110]]) rfl (by simp) hw
      cases hw2 : isW y [[110,111,116]] with
      | true =>
        rw [hw2] at h
        simp only [cond_true] at h
        obtain ⟨z, hz, hzk, h⟩ := nameB_some h
        have T2 := take_t (n := n) (lin := lin) m hy' hi1 (ws := [[110,111,116]]) (wa := [.str [110,111,116]]) rfl (by simp) hw2
        have N := name_x (n := n) (lin := lin) m (getF_map hz) (lt_of hlen hz) hzk
        simp only [loopN, q97_7, q97_2, q97_3, q97_5, q97_6, SIM, ST0, ST1, h0, h2, h3, T, T2, N, B26, fldV_a, getF_so hlt, setF_so hlt, EXS, BES, setF_cs, getF_cs, Nat.reduceAdd, Nat.reduceLeDiff, TkR.v]
        refine ih _ _ _ _ h fu' (by omega) _ _ ?_ ?_ ?_
        · first | exact h0 | rfl
        · first | exact h2 | rfl
        · first | exact h3 | rfl
      | false =>
        rw [hw2] at h
        simp only [cond_false] at h
        obtain ⟨z, hz, hzk, h⟩ := nameB_some h
        have T2 := take_f (n := n) (lin := lin) m hy' hi1 (ws := [[110,111,116]]) (wa := [.str [110,111,116]]) rfl (by simp) hw2
        have N := name_x (n := n) (lin := lin) m (getF_map hz) (lt_of hlen hz) hzk
        simp only [loopN, q97_7, q97_2, q97_3, q97_5, q97_6, SIM, ST0, ST1, h0, h2, h3, T, T2, N, B26, fldV_a, getF_so hlt, setF_so hlt, EXS, BES, setF_cs, getF_cs, Nat.reduceAdd, Nat.reduceLeDiff, TkR.v]
        refine ih _ _ _ _ h fu' (by omega) _ _ ?_ ?_ ?_
        · first | exact h0 | rfl
        · first | exact h2 | rfl
        · first | exact h3 | rfl

theorem when_run (m : ParM M) (hlen : ts.length ≤ 90000) (hR : PBelow M ts lin n rec) {k i j : Nat} {e : Ex} (hk9 : k ≤ 90000) (h : ppS ts rec k .when_ i = some (e, j)) : Runs M 97 [.ptr n 0] n (ts.map TkR.v) lin i e.v j := by
  simp only [ppS] at h
  obtain ⟨a, i1, ha, h⟩ := bnd_some h
  have iha := hR.prim ha
  refine Runs.of fun H hlt => ?_
  refine begin_ (z := z97) (m _ _ rfl) (by kernel_rfl) rfl ?_
  have e0 : (envOf [AV.ptr n 0] 0 env0).a.a.a = .ptr n 0 := rfl
  generalize envOf [AV.ptr n 0] 0 env0 = R at e0
  have pre : ∃ r, (r.a.a.a = .ptr n 0 ∧ r.a.a.c = .ptr (lenF H) 0 ∧ r.a.a.d = .ptr (lenF H + 1) 0) ∧ z97.sh (orc CC M) R [] ⟨setF H n (curO (ts.map TkR.v) lin i), lenF (setF H n (curO (ts.map TkR.v) lin i))⟩ = blkK 0 (loopN (q97_7 (orc CC M)) 100000 r [] ⟨setF H n (curO (ts.map TkR.v) lin i1) ++ [zero6, exO a], lenF H⟩) := by
    simp only [z97, q97_0, q97_1, SIM, ST0, e0, iha, getF_so hlt, setF_so hlt, EXS, Nat.reduceAdd, Nat.reduceLeDiff]
    refine ⟨_, ?_, rfl⟩
    exact ⟨by first | rfl | exact e0, rfl, rfl⟩
  obtain ⟨r0, hr0, hpre⟩ := pre
  rw [hpre]
  obtain ⟨r', G', h1, h2⟩ := when_loop m hlen hlt k a i1 e j h 100000 (by omega) r0 [] hr0.1 hr0.2.1 hr0.2.2
  rw [h1]
  simp only [z97, SIM, ST0, h2, EXS, Nat.reduceAdd, Nat.reduceLeDiff]

theorem lit_run (m : ParM M) (hlen : ts.length ≤ 90000) {i j : Nat} {e : Ex} (h : litS ts i = some (e, j)) : Runs M 102 [.ptr n 0] n (ts.map TkR.v) lin i e.v j := by
  simp only [litS] at h
  obtain ⟨x, hx, h⟩ := tkB_some h
  have hx' := getF_map hx
  have hi := lt_of hlen hx
  refine Runs.of fun H hlt => ?_
  refine begin_ (z := z102) (m _ _ rfl) (by kernel_rfl) rfl ?_
  have e0 : (envOf [AV.ptr n 0] 0 env0).a.a.a = .ptr n 0 := rfl
  generalize envOf [AV.ptr n 0] 0 env0 = R at e0
  cases hw : isW x [[116,114,117,101],[102,97,108,115,101]] with
  | true =>
    rw [hw] at h
    simp only [cond_true, Option.some.injEq, Prod.mk.injEq] at h
    obtain ⟨rfl, rfl⟩ := h
    have T := take_t (n := n) (lin := lin) m hx' hi (ws := [[116,114,117,101],[102,97,108,115,101]]) (wa := [.str [116,114,117,101], .str [102,97,108,115,101]]) rfl (by simp) hw
    have K := truth_ok m x
    simp only [TkR.v] at K
    simp only [z102, q102_0, q102_1, q102_2, q102_3, SIM, ST0, ST1, e0, B26, T, K, getF_so hlt, setF_so hlt, EXS, Nat.reduceAdd, Nat.reduceLeDiff, TkR.v]
  | false =>
    rw [hw] at h
    simp only [cond_false] at h
    have T := take_f (n := n) (lin := lin) m hx' hi (ws := [[116,114,117,101],[102,97,108,115,101]]) (wa := [.str [116,114,117,101], .str [102,97,108,115,101]]) rfl (by simp) hw
    cases hw2 : isW x [[45]] with
    | true =>
      rw [hw2] at h
      simp only [cond_true] at h
      have T2 := take_t (n := n) (lin := lin) m hx' hi (ws := [[45]]) (wa := [.str [45]]) rfl (by simp) hw2
      obtain ⟨y, hy, h⟩ := tkB_some h
      obtain ⟨hk2, h⟩ := cond_some h
      have P := peek_x (n := n) (lin := lin) m (getF_map hy)
      have c2 : decide ((y.k : Int) = 2) = Nat.beq y.k 2 := cie y.k 2
      rw [hk2] at c2
      have ha1 : addF ((i + 1 : Nat) : Int) 1 = ((i + 1 + 1 : Nat) : Int) := addF_i (i + 1) 1 (lt_of hlen hy)
      cases hn : numbE y x.p true with
      | none => rw [hn] at h; cases h
      | some e' =>
        rw [hn] at h
        simp only [Option.some.injEq, Prod.mk.injEq] at h
        obtain ⟨rfl, rfl⟩ := h
        have N := number_ok m y x.p true hn
        simp only [TkR.v] at N
        simp only [z102, q102_0, q102_1, q102_2, q102_4, q102_5, q102_6, q102_8, q102_9, q102_11, SIM, ST0, ST1, e0, B26, T, T2, P, c2, ha1, N, getF_so hlt, setF_so hlt, EXS, Nat.reduceAdd, Nat.reduceLeDiff, TkR.v]
    | false =>
      rw [hw2] at h
      simp only [cond_false] at h
      have T2 := take_f (n := n) (lin := lin) m hx' hi (ws := [[45]]) (wa := [.str [45]]) rfl (by simp) hw2
      obtain ⟨hk2, h⟩ := cond_some h
      have P := peek_x (n := n) (lin := lin) m hx'
      have c2 : decide ((x.k : Int) = 2) = Nat.beq x.k 2 := cie x.k 2
      rw [hk2] at c2
      have ha1 : addF ((i : Nat) : Int) 1 = ((i + 1 : Nat) : Int) := addF_i i 1 hi
      cases hn : numbE x x.p false with
      | none => rw [hn] at h; cases h
      | some e' =>
        rw [hn] at h
        simp only [Option.some.injEq, Prod.mk.injEq] at h
        obtain ⟨rfl, rfl⟩ := h
        have N := number_ok m x x.p false hn
        simp only [TkR.v] at N
        simp only [z102, q102_0, q102_1, q102_2, q102_4, q102_5, q102_6, q102_8, q102_9, q102_10, q102_11, SIM, ST0, ST1, e0, B26, T, T2, P, c2, ha1, N, getF_so hlt, setF_so hlt, EXS, Nat.reduceAdd, Nat.reduceLeDiff, TkR.v]
end
end Go.Proofs
set_option maxRecDepth 100000
namespace Go.Proofs
open Go Go.Abs

theorem se121 : sliceElem CC 81 = some 83 := by kernel_rfl
theorem inf123' : (CC.P.info? 83).map (fun i => (i.size, i.bytes)) = some (6, 72) := by kernel_rfl
theorem inf123 : ∃ i, CC.P.info? 83 = some i ∧ i.size = 6 ∧ i.bytes = 72 := by
  have h := inf123'
  cases hi : CC.P.info? 83 with
  | none => rw [hi] at h; cases h
  | some i =>
    rw [hi] at h
    simp only [Option.map_some, Option.some.injEq, Prod.mk.injEq] at h
    exact ⟨i, rfl, h.1, h.2⟩
theorem zero123 : zeroT CC 83 = some (.agg [.int .i64 0, .int .i64 0, .int .i64 0, .str [], .bool false, .nils]) := by kernel_rfl
theorem mut121 (f : Nat) : CC.mutT f 81 = false := by
  show ((81 : Nat) == 63 || (81 : Nat) == 65) = false
  simp
theorem ex_ok (a : Ex) : [a.v].all (elemOk 6) = true := by
  obtain ⟨k, p, n, s, b, kv, h, rfl | ⟨l, q, rfl⟩⟩ := ex_form a <;> rw [h] <;> rfl
theorem app_lit121 (f : Nat) {xs : List AV} (a : Ex) (hp : Heap) (e : Nat) (hl : xs.length + 1 ≤ 2 ^ 24) : appendAV CC f 81 (.sl 6 xs .lit) (.sl 6 [a.v] .lit) ⟨hp, e⟩ = some (.sl 6 (xs ++ [a.v]) (.live (lenF hp) 0), ⟨hp ++ [.lin 0], e⟩) := by
  obtain ⟨i, h1, h2, h3⟩ := inf123
  have h5 : decide (xs.length + [a.v].length ≤ 2 ^ 24) = true := by simp; omega
  simp only [appendAV, se121, h1, zero123, h2, h3, elemsAV, if_true, ex_ok a, h5, List.isEmpty, mut121, lenF_eq]
  simp [AV.cells]
theorem app_nil121 (f : Nat) (a : Ex) (hp : Heap) (e : Nat) : appendAV CC f 81 .nils (.sl 6 [a.v] .lit) ⟨hp, e⟩ = some (.sl 6 [a.v] (.live (lenF hp) 0), ⟨hp ++ [.lin 0], e⟩) := by
  obtain ⟨i, h1, h2, h3⟩ := inf123
  simp only [appendAV, se121, h1, zero123, h2, h3, elemsAV, if_true, ex_ok a, List.isEmpty, mut121, lenF_eq]
  simp [AV.cells]
theorem app_live121 (f : Nat) {xs : List AV} (a : Ex) {hp : Heap} {e id g : Nat} (hg : getF hp id = some (.lin g)) (hl : xs.length + 1 ≤ 2 ^ 24) :
    appendAV CC f 81 (.sl 6 xs (.live id g)) (.sl 6 [a.v] .lit) ⟨hp, e⟩ = some (.sl 6 (xs ++ [a.v]) (.live id (g + 1)), ⟨setF hp id (.lin (g + 1)), e⟩) := by
  obtain ⟨i, h1, h2, h3⟩ := inf123
  rw [getF_eq] at hg
  have h5 : decide (xs.length + [a.v].length ≤ 2 ^ 24) = true := by simp; omega
  simp only [appendAV, se121, h1, zero123, h2, h3, elemsAV, if_true, ex_ok a, h5, List.isEmpty, hg, setF_eq]
  simp [AV.cells]

/-- a slice of a line of appends that ends with the call -/
theorem gc_live1 {sz : Nat} {l : List AV} {id g base : Nat} {hp : Heap} (hl : noNL l = true) (hid : base ≤ id) :
    gcF false base (.sl sz l (.live id g)) ⟨hp, base⟩ = .ret (.sl sz l .dead) (takeF base hp) base := by
  have h1 : noN (.sl sz l (.live id g)) = false := rfl
  have h2 : Lin.low base (.live id g) = false := by simp [Lin.low]; omega
  have h3 : AV.settle base hp (.sl sz l (.live id g)) = .sl sz l .dead := by
    simp [AV.settle, settleL_nn hl, h2]
  have h4 : AV.low base (.sl sz l .dead) = true := by
    simp [AV.low, lowL_nn hl, Lin.low]
  unfold gcF
  rw [h1, Bool.and_false]
  simp only [cond_false, gcR, gcRet, if_true, h3, h4, Bool.false_eq_true, if_false, takeF_eq]

/-- behind an element of a row -/
noncomputable def rowT (ts : List TkR) (one : Nat → PR) (k j : Nat) : Option (List Ex × Nat) := tkB ts j fun x => cond (isW x [[44]]) (rowL ts one k (j + 1)) (cond (isW x [[41]]) (some ([], j + 1)) none)
theorem rowL_succ {ts : List TkR} {one : Nat → PR} {k i : Nat} {l : List Ex} {j : Nat} (h : rowL ts one (k + 1) i = some (l, j)) : ∃ a i1 l', one i = some (a, i1) ∧ rowT ts one k i1 = some (l', j) ∧ l = a :: l' := by
  simp only [rowL] at h
  obtain ⟨a, i1, ha, h⟩ := bnd_some h
  obtain ⟨x, hx, h⟩ := tkB_some h
  refine ⟨a, i1, ?_⟩
  unfold rowT tkB
  rw [hx]
  simp only
  cases h1 : isW x [[44]] with
  | true =>
    rw [h1] at h
    simp only [cond_true] at h ⊢
    cases hr : rowL ts one k (i1 + 1) with
    | none => rw [hr] at h; cases h
    | some q =>
      rw [hr] at h
      simp only [Option.some.injEq, Prod.mk.injEq] at h
      obtain ⟨rfl, rfl⟩ := h
      exact ⟨q.1, ha, rfl, rfl⟩
  | false =>
    rw [h1] at h
    simp only [cond_false] at h ⊢
    cases h2 : isW x [[41]] with
    | true =>
      rw [h2] at h
      simp only [cond_true, Option.some.injEq, Prod.mk.injEq] at h ⊢
      obtain ⟨rfl, rfl⟩ := h
      exact ⟨[], ha, ⟨rfl, rfl⟩, rfl⟩
    | false => rw [h2] at h; cases h

section
variable {M : Memo} {ts : List TkR} {lin : Lin} {n : Nat} {rec : PF → Nat → PR}

/-- where a row's elements stand -/
def RowI (H : Heap) (r : RG) (G : Heap) (acc : List Ex) : Prop :=
  (acc.length = 1 ∧ G = [] ∧ r.a.a.f = .sl 6 (exL acc) .lit) ∨ (∃ o g G', 2 ≤ acc.length ∧ G = o :: .lin g :: G' ∧ r.a.a.f = .sl 6 (exL acc) (.live (lenF H + 1) g))
def RowE (H : Heap) (v : AV) (l : List Ex) : Prop :=
  (l.length = 1 ∧ v = .sl 6 (exL l) .lit) ∨ (∃ g, 2 ≤ l.length ∧ v = .sl 6 (exL l) (.live (lenF H + 1) g))

theorem exL_app (l : List Ex) (a : Ex) : exL (l ++ [a]) = exL l ++ [a.v] := by simp [exL_map]

theorem row_loop (m : ParM M) (hlen : ts.length ≤ 90000) {g : Nat} {fv : AV} {one : Nat → PR} (hcv : ∀ s, callvV CC fv [] s = some (.call g [.ptr n 0]))
    (hk : ∀ {i e j}, one i = some (e, j) → Runs M g [.ptr n 0] n (ts.map TkR.v) lin i e.v j) {H : Heap} (hlt : n < lenF H) : ∀ (k : Nat) (acc : List Ex) (i : Nat) (l : List Ex) (j : Nat), rowT ts one k i = some (l, j) → acc.length + k ≤ 100000 → ∀ (fu : Nat), k + 1 ≤ fu → ∀ (r : RG) (G : Heap),
    r.a.a.a = .ptr n 0 → r.a.a.b = fv → RowI H r G acc →
    ∃ r' G', loopN (q59_7 (orc CC M)) fu r [] ⟨setF H n (curO (ts.map TkR.v) lin i) ++ G, lenF H⟩ = some (.ret, r', [], ⟨setF H n (curO (ts.map TkR.v) lin j) ++ G', lenF H⟩) ∧ RowE H r'.a.a.e (acc ++ l) := by
  intro k
  induction k with
  | zero =>
    intro acc i l j h hak fu hfu r G h0 h1 hI
    obtain ⟨fu', rfl⟩ : ∃ f, fu = f + 1 := ⟨fu - 1, by omega⟩
    obtain ⟨x, hx, h⟩ := tkB_some h
    have hx' := getF_map hx
    have hi := lt_of hlen hx
    cases hw : isW x [[44]] with
    | true => rw [hw] at h; cases h
    | false =>
      rw [hw] at h
      simp only [cond_false] at h
      obtain ⟨hw2, h⟩ := cond_some h
      simp only [Option.some.injEq, Prod.mk.injEq] at h
      obtain ⟨rfl, rfl⟩ := h
      have T := take_f (n := n) (lin := lin) m hx' hi (ws := [[44]]) (wa := [.str [44]]) rfl (by simp) hw
      have W := want_w (n := n) (lin := lin) m hx' hi hw2
      rcases hI with ⟨ha, rfl, h5⟩ | ⟨o, g', G', ha, rfl, h5⟩
      · simp only [loopN, q59_7, q59_2, q59_3, q59_4, q59_5, SIM, ST0, h0, h1, h5, T, W, B26, getF_so hlt, setF_so hlt, getF_so0 hlt, setF_cs, getF_cs, Nat.reduceAdd, Nat.reduceLeDiff, TkR.v]
        exact ⟨_, _, rfl, .inl ⟨by simpa using ha, rfl⟩⟩
      · simp only [loopN, q59_7, q59_2, q59_3, q59_4, q59_5, SIM, ST0, h0, h1, h5, T, W, B26, getF_so hlt, setF_so hlt, getF_so0 hlt, setF_cs, getF_cs, Nat.reduceAdd, Nat.reduceLeDiff, TkR.v]
        exact ⟨_, _, rfl, .inr ⟨g', by simpa using ha, rfl⟩⟩
  | succ k ih =>
    intro acc i l j h hak fu hfu r G h0 h1 hI
    obtain ⟨fu', rfl⟩ : ∃ f, fu = f + 1 := ⟨fu - 1, by omega⟩
    obtain ⟨x, hx, h⟩ := tkB_some h
    have hx' := getF_map hx
    have hi := lt_of hlen hx
    cases hw : isW x [[44]] with
    | false =>
      rw [hw] at h
      simp only [cond_false] at h
      obtain ⟨hw2, h⟩ := cond_some h
      simp only [Option.some.injEq, Prod.mk.injEq] at h
      obtain ⟨rfl, rfl⟩ := h
      have T := take_f (n := n) (lin := lin) m hx' hi (ws := [[44]]) (wa := [.str [44]]) rfl (by simp) hw
      have W := want_w (n := n) (lin := lin) m hx' hi hw2
      rcases hI with ⟨ha, rfl, h5⟩ | ⟨o, g', G', ha, rfl, h5⟩
      · simp only [loopN, q59_7, q59_2, q59_3, q59_4, q59_5, SIM, ST0, h0, h1, h5, T, W, B26, getF_so hlt, setF_so hlt, getF_so0 hlt, setF_cs, getF_cs, Nat.reduceAdd, Nat.reduceLeDiff, TkR.v]
        exact ⟨_, _, rfl, .inl ⟨by simpa using ha, rfl⟩⟩
      · simp only [loopN, q59_7, q59_2, q59_3, q59_4, q59_5, SIM, ST0, h0, h1, h5, T, W, B26, getF_so hlt, setF_so hlt, getF_so0 hlt, setF_cs, getF_cs, Nat.reduceAdd, Nat.reduceLeDiff, TkR.v]
        exact ⟨_, _, rfl, .inr ⟨g', by simpa using ha, rfl⟩⟩
    | true =>
      rw [hw] at h
      simp only [cond_true] at h
      obtain ⟨a, i1, l', ha1, hT, rfl⟩ := rowL_succ h
      have T := take_t (n := n) (lin := lin) m hx' hi (ws := [[44]]) (wa := [.str [44]]) rfl (by simp) hw
      have K := hk ha1
      have hex := exL_app acc a
      have hal : (exL acc).length = acc.length := by rw [exL_map, List.length_map]
      have key : ∀ (r : RG) (G : Heap), r.a.a.a = .ptr n 0 → r.a.a.b = fv → RowI H r G (acc ++ [a]) →
          ∃ r' G', loopN (q59_7 (orc CC M)) fu' r [] ⟨setF H n (curO (ts.map TkR.v) lin i1) ++ G, lenF H⟩ = some (.ret, r', [], ⟨setF H n (curO (ts.map TkR.v) lin j) ++ G', lenF H⟩) ∧ RowE H r'.a.a.e (acc ++ a :: l') := by
        intro r G h0 h1 hI
        have := ih (acc ++ [a]) i1 l' j hT (by simp; omega) fu' (by omega) r G h0 h1 hI
        rwa [List.append_assoc] at this
      rcases hI with ⟨ha, rfl, h5⟩ | ⟨o, g', G', ha, rfl, h5⟩
      · have A := fun hp e => app_lit121 59 (xs := exL acc) a hp e (by omega)
        simp only [loopN, q59_7, q59_2, q59_3, q59_6, SIM, ST0, h0, h1, h5, T, K, A, hcv, B26, EXS, getF_so hlt, setF_so hlt, getF_so0 hlt, setF_cs, getF_cs, Nat.reduceAdd, Nat.reduceLeDiff, TkR.v]
        refine key _ _ ?_ ?_ ?_
        · first | exact h0 | rfl
        · first | exact h1 | rfl
        · refine .inr ⟨_, 0, [], by simp; omega, rfl, ?_⟩
          rw [hex]
      · have A := fun L e => app_live121 59 (xs := exL acc) a (hp := setF H n (curO (ts.map TkR.v) lin i1) ++ (o :: .lin g' :: L)) (e := e) (id := lenF H + 1) (g := g') (by rw [getF_s]; rfl) (by omega)
        simp only [loopN, q59_7, q59_2, q59_3, q59_6, SIM, ST0, h0, h1, h5, T, K, A, hcv, B26, EXS, getF_so hlt, setF_so hlt, getF_so0 hlt, setF_cs, getF_cs, Nat.reduceAdd, Nat.reduceLeDiff, TkR.v]
        refine key _ _ ?_ ?_ ?_
        · first | exact h0 | rfl
        · first | exact h1 | rfl
        · refine .inr ⟨_, g' + 1, _, by simp; omega, rfl, ?_⟩
          rw [hex]

theorem keep111 : CC.keep 59 = false := by kernel_rfl
theorem row_run (m : ParM M) (hlen : ts.length ≤ 90000) {g : Nat} {fv : AV} {one : Nat → PR} (hcv : ∀ s, callvV CC fv [] s = some (.call g [.ptr n 0]))
    (hk : ∀ {i e j}, one i = some (e, j) → Runs M g [.ptr n 0] n (ts.map TkR.v) lin i e.v j) {k i j : Nat} {l : List Ex} (hk9 : k ≤ 90000) (h : rowL ts one k i = some (l, j)) : Runs M 59 [.ptr n 0, fv] n (ts.map TkR.v) lin i (kidsV 13 (exL l)) j := by
  cases k with
  | zero => cases h
  | succ k =>
    obtain ⟨a, i1, l', ha, hT, rfl⟩ := rowL_succ h
    have K := hk ha
    refine Runs.of fun H hlt => ?_
    refine begin_ (z := z59) (m _ _ rfl) (by kernel_rfl) rfl ?_
    have e0 : (envOf [AV.ptr n 0, fv] 0 env0).a.a.a = .ptr n 0 := rfl
    have e1 : (envOf [AV.ptr n 0, fv] 0 env0).a.a.b = fv := rfl
    generalize envOf [AV.ptr n 0, fv] 0 env0 = R at e0 e1
    have pre : ∃ r, (r.a.a.a = .ptr n 0 ∧ r.a.a.b = fv ∧ RowI H r [] [a]) ∧ z59.sh (orc CC M) R [] ⟨setF H n (curO (ts.map TkR.v) lin i), lenF (setF H n (curO (ts.map TkR.v) lin i))⟩ = blkK 0 (loopN (q59_7 (orc CC M)) 100000 r [] ⟨setF H n (curO (ts.map TkR.v) lin i1), lenF H⟩) := by
      simp only [z59, q59_0, q59_1, SIM, ST0, e0, e1, K, hcv, EXS, getF_so0 hlt, Nat.reduceAdd, Nat.reduceLeDiff]
      refine ⟨_, ?_, rfl⟩
      exact ⟨by first | rfl | exact e0, by first | rfl | exact e1, .inl ⟨rfl, rfl, rfl⟩⟩
    obtain ⟨r0, hr0, hpre⟩ := pre
    rw [hpre]
    obtain ⟨r', G', h1, h2⟩ := row_loop m hlen hcv hk hlt k [a] i1 l' j hT (by simp; omega) 100000 (by omega) r0 [] hr0.1 hr0.2.1 hr0.2.2
    rw [List.append_nil] at h1
    rw [h1]
    rw [List.singleton_append] at h2
    have hln : noNL (exL (a :: l')) = true := exL_noN _
    rcases h2 with ⟨hl, h2⟩ | ⟨g', hl, h2⟩
    · have hl0 : l' = [] := by cases l' with
        | nil => rfl
        | cons b c => simp at hl
      subst hl0
      simp only [z59, SIM, ST0, h2, hln]
      rfl
    · have G := fun hp => gc_live1 (sz := 6) (l := exL (a :: l')) (id := lenF H + 1) (g := g') (base := lenF H) (hp := hp) hln (by omega)
      have hkv : kidsV 13 (exL (a :: l')) = .sl 6 (exL (a :: l')) .dead := by
        have hle : Nat.ble 2 ((exL l').length + 1) = true := by
          rw [nble, exL_map, List.length_map]; simp at hl ⊢; omega
        simp only [exL, kidsV, linK, hle]
        rfl
      rw [hkv]
      simp only [z59, SIM, ST0, h2, keep111, G]

theorem kids14 (l : List AV) : kidsV 14 l = kidsV 13 l := by
  cases l with
  | nil => rfl
  | cons a l => rfl

theorem kids_cells (l : List Ex) : AV.cells (kidsV 13 (exL l)) = [kidsV 13 (exL l)] ∧ AV.one (kidsV 13 (exL l)) = true ∧ noN (kidsV 13 (exL l)) = true := by
  refine ⟨?_, ?_, noN_kids (exL_noN l)⟩
  · cases exL l <;> rfl
  · cases exL l <;> rfl

theorem call_run (m : ParM M) (hlen : ts.length ≤ 90000) (hR : PBelow M ts lin n rec) {k i j : Nat} {x : TkR} {e : Ex} (hk9 : k ≤ 90000) (h : callS ts rec k x i = some (e, j)) : Runs M 43 [.ptr n 0, x.v] n (ts.map TkR.v) lin i e.v j := by
  obtain ⟨w, hw, hww, h⟩ := wantB_some h
  obtain ⟨y, hy, h⟩ := tkB_some h
  have W := want_w (n := n) (lin := lin) m (getF_map hw) (lt_of hlen hw) hww
  have hy' := getF_map hy
  have hi1 := lt_of hlen hy
  refine Runs.of fun H hlt => ?_
  refine begin_ (z := z43) (m _ _ rfl) (by kernel_rfl) rfl ?_
  have e0 : (envOf [AV.ptr n 0, x.v] 0 env0).a.a.a = .ptr n 0 := rfl
  have e1 : (envOf [AV.ptr n 0, x.v] 0 env0).a.a.b = x.v := rfl
  generalize envOf [AV.ptr n 0, x.v] 0 env0 = R at e0 e1
  have hb := bxTok x
  simp only [TkR.v] at hb
  cases hy2 : isW y [[41]] with
  | true =>
    rw [hy2] at h
    simp only [cond_true, Option.some.injEq, Prod.mk.injEq] at h
    obtain ⟨rfl, rfl⟩ := h
    have T := take_t (n := n) (lin := lin) m hy' hi1 (ws := [[41]]) (wa := [.str [41]]) rfl (by simp) hy2
    simp only [z43, q43_0, q43_1, q43_2, q43_3, q43_4, q43_6, SIM, ST0, e0, e1, hb, B26, BES, T, W, getF_so hlt, setF_so hlt, Nat.reduceAdd, Nat.reduceLeDiff, TkR.v]
    rfl
  | false =>
    rw [hy2] at h
    simp only [cond_false] at h
    have T := take_f (n := n) (lin := lin) m hy' hi1 (ws := [[41]]) (wa := [.str [41]]) rfl (by simp) hy2
    cases hr : rowL ts (rec .expr) k (i + 1) with
    | none => rw [hr] at h; cases h
    | some q =>
      obtain ⟨l, j2⟩ := q
      rw [hr] at h
      simp only [Option.some.injEq, Prod.mk.injEq] at h
      obtain ⟨rfl, rfl⟩ := h
      have L := row_run (fv := .func (.func 44) [.ptr n 0] []) m hlen (fun s => by kernel_rfl) hR.expr hk9 hr
      have hv : (Ex.mk 13 x.p 0 x.t false l).v = .agg [.int .i64 13, .int .i64 (x.p : Int), .int .i64 0, .str x.t, .bool false, kidsV 13 (exL l)] := by simp only [Ex.v]; rfl
      rw [hv]
      obtain ⟨c1, c2, c3⟩ := kids_cells l
      generalize kidsV 13 (exL l) = kv at L c1 c2 c3
      simp only [z43, q43_0, q43_1, q43_2, q43_3, q43_4, q43_5, q43_6, SIM, ST0, e0, e1, hb, B26, BES, T, W, L, c1, c2, c3, getF_so hlt, setF_so hlt, Nat.reduceAdd, Nat.reduceLeDiff, TkR.v]

theorem await_run (m : ParM M) (hlen : ts.length ≤ 90000) {k p i j : Nat} {e : Ex} (hk9 : k ≤ 90000) (h : awaitS ts k p i = some (e, j)) : Runs M 100 [.ptr n 0, .int .i64 (p : Int)] n (ts.map TkR.v) lin i e.v j := by
  obtain ⟨z, hz, hzk, h⟩ := nameB_some h
  obtain ⟨x, hx, h⟩ := tkB_some h
  have N := name_x (n := n) (lin := lin) m (getF_map hz) (lt_of hlen hz) hzk
  have hx' := getF_map hx
  have hi1 := lt_of hlen hx
  refine Runs.of fun H hlt => ?_
  refine begin_ (z := z100) (m _ _ rfl) (by kernel_rfl) rfl ?_
  have e0 : (envOf [AV.ptr n 0, .int .i64 (p : Int)] 0 env0).a.a.a = .ptr n 0 := rfl
  have e1 : (envOf [AV.ptr n 0, .int .i64 (p : Int)] 0 env0).a.a.b = .int .i64 (p : Int) := rfl
  generalize envOf [AV.ptr n 0, .int .i64 (p : Int)] 0 env0 = R at e0 e1
  cases hx2 : isW x [[97,102,116,101,114]] with
  | false =>
    rw [hx2] at h
    simp only [cond_false, Option.some.injEq, Prod.mk.injEq] at h
    obtain ⟨rfl, rfl⟩ := h
    have T := take_f (n := n) (lin := lin) m hx' hi1 (ws := [[97,102,116,101,114]]) (wa := [.str [97,102,116,101,114]]) rfl (by simp) hx2
    simp only [z100, q100_0, q100_1, q100_2, q100_3, q100_6, SIM, ST0, e0, e1, B26, BES, T, N, fldV_a, getF_so hlt, setF_so hlt, Nat.reduceAdd, Nat.reduceLeDiff, TkR.v]
    rfl
  | true =>
    rw [hx2] at h
    simp only [cond_true] at h
    have T := take_t (n := n) (lin := lin) m hx' hi1 (ws := [[97,102,116,101,114]]) (wa := [.str [97,102,116,101,114]]) rfl (by simp) hx2
    obtain ⟨w, hw, hww, h⟩ := wantB_some h
    have W := want_w (n := n) (lin := lin) m (getF_map hw) (lt_of hlen hw) hww
    cases hr : rowL ts (litS ts) k (i + 1 + 1 + 1) with
    | none => rw [hr] at h; cases h
    | some q =>
      obtain ⟨l, j2⟩ := q
      rw [hr] at h
      simp only [Option.some.injEq, Prod.mk.injEq] at h
      obtain ⟨rfl, rfl⟩ := h
      have L := row_run (n := n) (lin := lin) (fv := .func (.func 102) [.ptr n 0] []) m hlen (fun s => by kernel_rfl) (fun h => lit_run m hlen h) hk9 hr
      have hv : (Ex.mk 14 p 0 z.t false l).v = .agg [.int .i64 14, .int .i64 (p : Int), .int .i64 0, .str z.t, .bool false, kidsV 13 (exL l)] := by simp only [Ex.v, kids14]; rfl
      rw [hv]
      obtain ⟨c1, c2, c3⟩ := kids_cells l
      generalize kidsV 13 (exL l) = kv at L c1 c2 c3
      simp only [z100, q100_0, q100_1, q100_2, q100_3, q100_4, q100_5, q100_6, SIM, ST0, e0, e1, B26, BES, T, N, W, L, c1, c2, c3, fldV_a, getF_so hlt, setF_so hlt, Nat.reduceAdd, Nat.reduceLeDiff, TkR.v]
end
end Go.Proofs
set_option maxRecDepth 100000
namespace Go.Proofs
open Go Go.Abs

theorem lp2 (b : CZ) (r : RG) (ds : Dfs) (s : St) : loopN b 99998 r ds s = seqK (loopN b 99997) (b r ds s) := rfl
theorem low_live {b sz id g : Nat} {l : List AV} (hl : noNL l = true) : AV.low b (.sl sz l (.live id g)) = decide (id < b) := by
  simp [AV.low, lowL_nn hl, Lin.low]
theorem stoC_l1 {off r sz id g b : Nat} {l cs : List AV} {hp : Heap} (hl : noNL l = true) (h1 : id < lenF hp) (h2 : r + 1 ≤ id) (h3 : b ≤ r) (h4 : off + 1 ≤ lenF cs) :
    stoC 1 off r (.sl sz l (.live id g)) [.sl sz l (.live id g)] cs ⟨hp, b⟩ = some ⟨setF hp r (.cells (putF cs off [.sl sz l (.live id g)])), b⟩ := by
  have e1 : lowF (lenF hp) (.sl sz l (.live id g)) = true := by rw [lowF_eq, low_live hl]; simpa using h1
  have e2 : lowF (r + 1) (.sl sz l (.live id g)) = false := by rw [lowF_eq, low_live hl]; simp; omega
  have e3 : Nat.ble (Nat.add off 1) (lenF cs) = true := by rw [nble]; simpa using h4
  have e4 : min b r = b := Nat.min_eq_left h3
  have e5 : Nat.beq (lenF [AV.sl sz l (.live id g)]) 1 = true := rfl
  have e6 : List.all [AV.sl sz l (.live id g)] AV.one = true := rfl
  simp only [stoC, e1, e3, e5, e6, Bool.and_self, cond_true, escF, e2, cond_false, e4]
theorem stoC_l6 {r sz id g b : Nat} {k p m : Int} {s : List Nat} {o : Bool} {l cs : List AV} {hp : Heap} (hl : noNL l = true) (h1 : id < lenF hp) (h2 : r + 1 ≤ id) (h3 : b ≤ r) (h4 : 6 ≤ lenF cs) :
    stoC 6 0 r (.agg [.int .i64 k, .int .i64 p, .int .i64 m, .str s, .bool o, .sl sz l (.live id g)]) [.int .i64 k, .int .i64 p, .int .i64 m, .str s, .bool o, .sl sz l (.live id g)] cs ⟨hp, b⟩ =
      some ⟨setF hp r (.cells (putF cs 0 [.int .i64 k, .int .i64 p, .int .i64 m, .str s, .bool o, .sl sz l (.live id g)])), b⟩ := by
  have low : ∀ b, AV.low b (.agg [.int .i64 k, .int .i64 p, .int .i64 m, .str s, .bool o, .sl sz l (.live id g)]) = decide (id < b) := by
    intro b
    have := low_live (b := b) (sz := sz) (id := id) (g := g) hl
    simp [AV.low, lowL] at this ⊢
    exact this
  have e1 : lowF (lenF hp) (.agg [.int .i64 k, .int .i64 p, .int .i64 m, .str s, .bool o, .sl sz l (.live id g)]) = true := by rw [lowF_eq, low]; simpa using h1
  have e2 : lowF (r + 1) (.agg [.int .i64 k, .int .i64 p, .int .i64 m, .str s, .bool o, .sl sz l (.live id g)]) = false := by rw [lowF_eq, low]; simp; omega
  have e3 : Nat.ble (Nat.add 0 6) (lenF cs) = true := by rw [nble]; simpa using h4
  have e4 : min b r = b := Nat.min_eq_left h3
  have e5 : Nat.beq (lenF [.int .i64 k, .int .i64 p, .int .i64 m, .str s, .bool o, AV.sl sz l (.live id g)]) 6 = true := rfl
  have e6 : List.all [.int .i64 k, .int .i64 p, .int .i64 m, .str s, .bool o, AV.sl sz l (.live id g)] AV.one = true := rfl
  simp only [stoC, e1, e3, e5, e6, Bool.and_self, cond_true, escF, e2, cond_false, e4]
theorem gc_l6 {sz id g base : Nat} {k p m : Int} {s : List Nat} {o : Bool} {l : List AV} {hp : Heap} (hl : noNL l = true) (hid : base ≤ id) :
    gcF false base (.agg [.int .i64 k, .int .i64 p, .int .i64 m, .str s, .bool o, .sl sz l (.live id g)]) ⟨hp, base⟩ = .ret (.agg [.int .i64 k, .int .i64 p, .int .i64 m, .str s, .bool o, .sl sz l .dead]) (takeF base hp) base := by
  have h1 : noN (.agg [.int .i64 k, .int .i64 p, .int .i64 m, .str s, .bool o, .sl sz l (.live id g)]) = false := rfl
  have h2 : Lin.low base (.live id g) = false := by simp [Lin.low]; omega
  have h3 : AV.settle base hp (.agg [.int .i64 k, .int .i64 p, .int .i64 m, .str s, .bool o, .sl sz l (.live id g)]) = .agg [.int .i64 k, .int .i64 p, .int .i64 m, .str s, .bool o, .sl sz l .dead] := by
    simp [AV.settle, settleL, settleL_nn hl, h2]
  have h4 : AV.low base (.agg [.int .i64 k, .int .i64 p, .int .i64 m, .str s, .bool o, .sl sz l .dead]) = true := by
    simp [AV.low, lowL, lowL_nn hl, Lin.low]
  unfold gcF
  rw [h1, Bool.and_false]
  simp only [cond_false, gcR, gcRet, if_true, h3, h4, Bool.false_eq_true, if_false, takeF_eq]
theorem exL_noN2 (a b : Ex) : noNL [a.v, b.v] = true := exL_noN [a, b]
theorem same_ex1 (a : Ex) (q : Lin) : AV.same (.sl 6 [a.v] q) (.sl 6 [a.v] q) = true := by simp [AV.same, sameL, ex_same]
theorem keep192 : CC.keep 99 = false := by kernel_rfl

section
variable {M : Memo} {ts : List TkR} {lin : Lin} {n : Nat} {rec : PF → Nat → PR}

theorem prim_run (m : ParM M) (hlen : ts.length ≤ 90000) (hR : PBelow M ts lin n rec) {k i j : Nat} {e : Ex} (hk9 : k ≤ 90000) (h : ppS ts rec k .prim i = some (e, j)) : Runs M 99 [.ptr n 0] n (ts.map TkR.v) lin i e.v j := by
  simp only [ppS] at h
  obtain ⟨x, hx, h⟩ := tkB_some h
  have hx' := getF_map hx
  have hi := lt_of hlen hx
  refine Runs.of fun H hlt => ?_
  refine begin_ (z := z99) (m _ _ rfl) (by kernel_rfl) rfl ?_
  have e0 : (envOf [AV.ptr n 0] 0 env0).a.a.a = .ptr n 0 := rfl
  generalize envOf [AV.ptr n 0] 0 env0 = R at e0
  have P := peek_x (n := n) (lin := lin) m hx'
  have c2 : decide ((x.k : Int) = 2) = Nat.beq x.k 2 := cie x.k 2
  have c1 : decide ((x.k : Int) = 1) = Nat.beq x.k 1 := cie x.k 1
  have ha1 : addF ((i : Nat) : Int) 1 = ((i + 1 : Nat) : Int) := addF_i i 1 hi
  cases hk2 : Nat.beq x.k 2 with
  | true =>
    rw [hk2] at h c2
    simp only [cond_true] at h
    cases hn : numbE x x.p false with
    | none => rw [hn] at h; cases h
    | some e' =>
      rw [hn] at h
      simp only [Option.some.injEq, Prod.mk.injEq] at h
      obtain ⟨rfl, rfl⟩ := h
      have N := number_ok m x x.p false hn
      simp only [TkR.v] at N
      simp only [z99, q99_0, q99_1, q99_2, q99_3, q99_4, SIM, ST0, ST1, e0, P, c2, ha1, N, getF_so hlt, setF_so hlt, EXS, Nat.reduceAdd, Nat.reduceLeDiff, TkR.v]
  | false =>
    rw [hk2] at h c2
    simp only [cond_false] at h
    cases hk1 : Nat.beq x.k 1 with
    | true =>
      rw [hk1] at h c1
      simp only [cond_true] at h
      obtain ⟨y, hy, h⟩ := tkB_some h
      have hy' := getF_map hy
      cases hw : isW y [[40]] with
      | true =>
        rw [hw] at h
        simp only [cond_true] at h
        have I := is_w (n := n) (lin := lin) m hy' (ws := [[40]]) (wa := [.str [40]]) rfl (by simp) hw
        have C := call_run m hlen hR hk9 h
        simp only [TkR.v] at C
        simp only [z99, q99_0, q99_1, q99_2, q99_5, q99_6, q99_7, q99_8, SIM, ST0, ST1, e0, B26, P, c1, c2, ha1, I, C, getF_so hlt, setF_so hlt, EXS, Nat.reduceAdd, Nat.reduceLeDiff, TkR.v]
      | false =>
        rw [hw] at h
        simp only [cond_false, Option.some.injEq, Prod.mk.injEq] at h
        obtain ⟨rfl, rfl⟩ := h
        have I := is_w (n := n) (lin := lin) m hy' (ws := [[40]]) (wa := [.str [40]]) rfl (by simp) hw
        simp only [z99, q99_0, q99_1, q99_2, q99_5, q99_6, q99_7, q99_9, SIM, ST0, ST1, e0, B26, BES, P, c1, c2, ha1, I, getF_so hlt, setF_so hlt, EXS, Nat.reduceAdd, Nat.reduceLeDiff, TkR.v]
        rfl
    | false =>
      rw [hk1] at h c1
      simp only [cond_false] at h
      obtain ⟨hw, h⟩ := cond_some h
      have T := take_t (n := n) (lin := lin) m hx' hi (ws := [[116,114,117,101],[102,97,108,115,101],[109,101,114,103,101],[97,119,97,105,116],[40]]) (wa := [.str [116,114,117,101], .str [102,97,108,115,101], .str [109,101,114,103,101], .str [97,119,97,105,116], .str [40]]) rfl (by simp) hw
      cases hm : strEq x.t [109,101,114,103,101] with
      | true =>
        rw [hm] at h
        simp only [cond_true] at h
        obtain ⟨z, hz, hzk, h⟩ := nameB_some h
        obtain ⟨w1, hw1, hww1, h⟩ := wantB_some h
        obtain ⟨a, i3, ha, h⟩ := bnd_some h
        obtain ⟨w2, hw2, hww2, h⟩ := wantB_some h
        obtain ⟨w3, hw3, hww3, h⟩ := wantB_some h
        obtain ⟨b, i6, hb, h⟩ := bnd_some h
        obtain ⟨w4, hw4, hww4, h⟩ := wantB_some h
        simp only [Option.some.injEq, Prod.mk.injEq] at h
        obtain ⟨rfl, rfl⟩ := h
        have N := name_x (n := n) (lin := lin) m (getF_map hz) (lt_of hlen hz) hzk
        have W1 := want_w (n := n) (lin := lin) m (getF_map hw1) (lt_of hlen hw1) hww1
        have W2 := want_w (n := n) (lin := lin) m (getF_map hw2) (lt_of hlen hw2) hww2
        have W3 := want_w (n := n) (lin := lin) m (getF_map hw3) (lt_of hlen hw3) hww3
        have W4 := want_w (n := n) (lin := lin) m (getF_map hw4) (lt_of hlen hw4) hww4
        have iha := hR.expr ha
        have ihb := hR.expr hb
        have A1 := app_nil121 99 a
        have A2 : ∀ o1 o2 o3 o4 e, appendAV CC 99 81 (.sl 6 [a.v] (.live (lenF H + 4) 0)) (.sl 6 [b.v] .lit) ⟨setF H n (curO (ts.map TkR.v) lin i6) ++ [o1, o2, o3, o4, .lin 0], e⟩ =
            some (.sl 6 [a.v, b.v] (.live (lenF H + 4) 1), ⟨setF H n (curO (ts.map TkR.v) lin i6) ++ [o1, o2, o3, o4, .lin 1], e⟩) := by
          intro o1 o2 o3 o4 e
          rw [app_live121 99 (xs := [a.v]) b (g := 0) (by rw [getF_s]; rfl) (by simp), setF_s]
          rfl
        have a01 : addF 0 1 = 1 := by decide
        have a11 : addF 1 1 = 2 := by decide
        simp only [z99, q99_0, q99_1, q99_2, q99_5, q99_10, q99_11, q99_13, q99_14, q99_15, q99_16, q99_17, q99_18, q99_19, q99_20, q99_21, q99_22, q99_23, SIM, ST0, ST1, ST2, ST3, e0, B26, BES, P, c1, c2, T, hm, N, W1, W2, W3, W4, iha, ihb, A1, A2, appF_eq, fldV_a, lp0, lp1, lp2, a01, a11, getF_so hlt, setF_so hlt, EXS, stoC_l1, stoC_l6, gc_l6, same_ex1, keep192, Int.reduceLT, Nat.add_lt_add_iff_left, Nat.reduceLT, Nat.le_add_right, Nat.add_assoc, Nat.reduceAdd, Nat.reduceLeDiff, TkR.v, List.length_cons, List.length_nil]
        rfl
      | false =>
        rw [hm] at h
        simp only [cond_false] at h
        cases hm2 : strEq x.t [97,119,97,105,116] with
        | true =>
          rw [hm2] at h
          simp only [cond_true] at h
          have A := await_run (n := n) (lin := lin) m hlen hk9 h
          simp only [z99, q99_0, q99_1, q99_2, q99_5, q99_10, q99_11, q99_13, q99_14, q99_24, q99_25, SIM, ST0, ST1, ST2, ST3, e0, B26, P, c1, c2, T, hm, hm2, A, getF_so hlt, setF_so hlt, EXS, Nat.reduceAdd, Nat.reduceLeDiff, TkR.v]
        | false =>
          rw [hm2] at h
          simp only [cond_false] at h
          cases hm3 : strEq x.t [40] with
          | true =>
            rw [hm3] at h
            simp only [cond_true] at h
            obtain ⟨a, i3, ha, h⟩ := bnd_some h
            obtain ⟨w1, hw1, hww1, h⟩ := wantB_some h
            simp only [Option.some.injEq, Prod.mk.injEq] at h
            obtain ⟨rfl, rfl⟩ := h
            have iha := hR.expr ha
            have W1 := want_w (n := n) (lin := lin) m (getF_map hw1) (lt_of hlen hw1) hww1
            simp only [z99, q99_0, q99_1, q99_2, q99_5, q99_10, q99_11, q99_13, q99_14, q99_24, q99_26, q99_27, q99_28, q99_29, SIM, ST0, ST1, ST2, ST3, e0, B26, P, c1, c2, T, hm, hm2, hm3, iha, W1, getF_so hlt, setF_so hlt, EXS, Nat.reduceAdd, Nat.reduceLeDiff, TkR.v]
          | false =>
            rw [hm3] at h
            simp only [cond_false, Option.some.injEq, Prod.mk.injEq] at h
            obtain ⟨rfl, rfl⟩ := h
            have K := truth_ok m x
            simp only [TkR.v] at K
            simp only [z99, q99_0, q99_1, q99_2, q99_5, q99_10, q99_11, q99_13, q99_14, q99_24, q99_26, q99_30, SIM, ST0, ST1, ST2, ST3, e0, B26, P, c1, c2, T, hm, hm2, hm3, K, getF_so hlt, setF_so hlt, EXS, Nat.reduceAdd, Nat.reduceLeDiff, TkR.v]
end
end Go.Proofs

namespace Go.Proofs
open Go Go.Abs
theorem pp_ok {M : Memo} {ts : List TkR} {lin : Lin} {n : Nat} (m : ParM M) (hlen : ts.length ≤ 90000) : ∀ k, k ≤ 90000 → PBelow M ts lin n (pp ts k)
  | 0, _ => by constructor <;> (intro i e j h; cases h)
  | k + 1, hk => by
    have ih := pp_ok (lin := lin) (n := n) m hlen k (by omega)
    have hk' : k ≤ 90000 := by omega
    exact ⟨fun h => expr_run (k := k) m hlen ih h, fun h => arrow_run (k := k) m hlen ih h, fun h => or__run m hlen ih hk' h, fun h => and__run m hlen ih hk' h, fun h => not__run (k := k) m hlen ih h, fun h => sum_run m hlen ih hk' h, fun h => term_run m hlen ih hk' h,
      fun h => unary_run (k := k) m hlen ih h, fun h => when_run m hlen ih hk' h, fun h => prim_run m hlen ih hk' h⟩
end Go.Proofs
