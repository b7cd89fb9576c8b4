/- declarations, equations, nodes, a whole text. Part of the proof of girandolelaw08.FlatClocks. -/
import Derived.Test.YtglacbfdbfhmfaaDoorPar
import Derived.Test.YtglacbfdbfhmfaaDoorMemo
set_option linter.unusedVariables false
set_option linter.unusedSimpArgs false
set_option maxRecDepth 100000
namespace Go.Proofs
open Go Go.Abs
mutual
def sizeE : Ex → Nat
  | .mk _ _ _ _ _ kids => sizeL kids + 1
def sizeL : List Ex → Nat
  | [] => 0
  | a :: l => sizeE a + sizeL l
end
mutual
def deepE : Ex → Nat
  | .mk _ _ _ _ _ kids => deepL kids + 1
def deepL : List Ex → Nat
  | [] => 0
  | a :: l => max (deepE a) (deepL l)
end
theorem sizeE_k (e : Ex) : sizeE e = sizeL e.kids + 1 := by cases e; simp [sizeE, Ex.kids]
theorem deepE_k (e : Ex) : deepE e = deepL e.kids + 1 := by cases e; simp [deepE, Ex.kids]
theorem sizeL_mem {a : Ex} : ∀ {l : List Ex}, a ∈ l → sizeE a ≤ sizeL l
  | [], h => by cases h
  | b :: l, h => by
    simp only [sizeL]
    rcases List.mem_cons.1 h with rfl | h
    · omega
    · have := sizeL_mem h; omega
theorem sizeL_len : ∀ l : List Ex, l.length ≤ sizeL l
  | [] => by simp [sizeL]
  | b :: l => by
    have := sizeL_len l
    have h2 := sizeE_k b
    simp only [sizeL, List.length_cons]; omega
mutual
theorem deep_le : ∀ e : Ex, deepE e ≤ sizeE e
  | .mk _ _ _ _ _ kids => by simp only [deepE, sizeE]; have := deepL_le kids; omega
theorem deepL_le : ∀ l : List Ex, deepL l ≤ sizeL l
  | [] => by simp [deepL, sizeL]
  | a :: l => by simp only [deepL, sizeL]; have := deep_le a; have := deepL_le l; omega
end
theorem mm_n (a b : Nat) : minmaxAV true (.int .i64 (a : Int)) [.int .i64 (b : Int)] = some (.int .i64 ((max a b : Nat) : Int)) := by
  simp only [minmaxAV, if_true]
  by_cases h : (b : Int) > (a : Int)
  · rw [if_pos h, show max a b = b by omega]
  · rw [if_neg h, show max a b = a by omega]
theorem cc121 : ∃ e, CC.P.underlying 81 = some (.slice e) ∧ e = 83 := ⟨_, by kernel_rfl, rfl⟩

def DpE (H : Heap) (b n : Nat) (X : IRes) : Prop := ∃ r' L, X = some (.exit 0, r', [], ⟨H ++ L, b⟩) ∧ r'.a.a.d = .int .i64 (n : Int)
theorem DpE.up {H K : Heap} {b n : Nat} {X : IRes} (h : DpE (H ++ K) b n X) : DpE H b n X := by
  obtain ⟨r', L, h1, h2⟩ := h
  exact ⟨r', K ++ L, by rw [← List.append_assoc]; exact h1, h2⟩
section
variable {M : Memo}
theorem deep_loop {kids : List Ex} (hsz : sizeL kids < 90000) (ihk : ∀ a ∈ kids, ∀ H, orc CC M 45 [a.v] H = some (.ret (.int .i64 (deepE a : Int)) H (lenF H))) {V : AV} (hV : ∀ (i : Nat) (a : Ex), kids[i]? = some a → iasV 6 V (.int .i64 (i : Int)) = some (.iptr a.v.cells)) :
    ∀ (d i : Nat), d + i = kids.length → ∀ (fu : Nat), d < fu → ∀ (H : Heap) (b : Nat), b ≤ lenF H → ∀ (acc : Nat) (r : RG),
    (r.a.a.d = .int .i64 (acc : Int) ∧ r.a.a.h = V ∧ r.a.b.a = .int .i64 (kids.length : Int) ∧ r.a.b.b = .int .i64 (i : Int)) →
    DpE H b (max acc (deepL (kids.drop i))) (loopN (q45_7 (orc CC M)) fu r [] ⟨H, b⟩) := by
  have hlen := sizeL_len kids
  intro d
  induction d with
  | zero =>
    intro i hi fu hfu H b hb acc r ⟨h3, h7, h8, h9⟩
    obtain ⟨fu', rfl⟩ : ∃ f, fu = f + 1 := ⟨fu - 1, by omega⟩
    have : i = kids.length := by omega
    subst this
    have hc : decide ((kids.length : Int) < (kids.length : Int)) = false := by simp
    rw [List.drop_length]
    simp only [loopN, q45_7, q45_3, SIM, ST0, h8, h9, hc, deepL]
    exact ⟨_, [], by rw [List.append_nil], by rw [Nat.max_zero]; exact h3⟩
  | succ d ih =>
    intro i hi fu hfu H b hb acc r ⟨h3, h7, h8, h9⟩
    obtain ⟨fu', rfl⟩ : ∃ f, fu = f + 1 := ⟨fu - 1, by omega⟩
    have hlt : i < kids.length := by omega
    have hc : decide ((i : Int) < (kids.length : Int)) = true := by simp; omega
    have hd : kids.drop i = kids[i] :: kids.drop (i + 1) := List.drop_eq_getElem_cons hlt
    have hg : kids[i]? = some kids[i] := by simp [hlt]
    have hm := ihk _ (List.getElem_mem hlt)
    generalize kids[i] = a at hd hg hm
    have hat := hV i a hg
    have ha : addF (i : Int) 1 = ((i + 1 : Nat) : Int) := addF_i i 1 (by unfold natMax; omega)
    have hmm := mm_n acc (deepE a)
    have hmin : ∀ q, min b (lenF H + q) = b := fun q => Nat.min_eq_left (by omega)
    have hD := hm (H ++ [exO a])
    rw [show lenF (H ++ [exO a]) = lenF H + 1 by simp [lenF_eq]] at hD
    have key := ih (i + 1) (by omega) fu' (by omega) (H ++ [exO a]) b (by rw [lenF_eq, List.length_append]; rw [lenF_eq] at hb; omega) (max acc (deepE a))
    rw [hd]
    simp only [deepL]
    rw [← Nat.max_assoc]
    simp only [loopN, q45_7, q45_3, q45_4, q45_5, q45_6, SIM, ST0, h3, h7, h8, h9, hc, hat, hD, hmm, hmin, ha, EXS, Nat.reduceAdd, Nat.reduceLeDiff]
    exact (key _ ⟨rfl, by first | rfl | exact h7, by first | rfl | exact h8, rfl⟩).up
theorem deep_ok (m : ParM M) : ∀ (s : Nat) (e : Ex), sizeE e ≤ s → s < 90000 → ∀ H, orc CC M 45 [e.v] H = some (.ret (.int .i64 (deepE e : Int)) H (lenF H)) := by
  intro s
  induction s with
  | zero => intro e he; have := sizeE_k e; omega
  | succ s ih =>
    intro e he hs H
    have hk := sizeE_k e
    refine begin_ (z := z45) (m _ _ rfl) (by kernel_rfl) rfl ?_
    have e0 : (envOf [e.v] 0 env0).a.a.a = e.v := rfl
    generalize envOf [e.v] 0 env0 = R at e0
    have hbx : ∀ L, bxV e.v L = some (.cells [.int .i64 (e.k : Int), .int .i64 (e.p : Int), .int .i64 e.n, .str e.s, .bool e.b, e.kv], (.ptr · 0)) := by
      intro L
      have h1 : e.v.low L = true := (noN_ok _ (ex_noN e)).2 L
      unfold bxV
      have h2 : (AV.cells e.v).all AV.one = true := by
        rw [ex_cells]
        simp only [List.all_cons, List.all_nil, kv_one, one_int, one_str, one_bool, Bool.and_self]
      rw [if_pos ⟨h2, h1⟩, ex_cells]
    obtain ⟨e', hu, rfl⟩ := cc121
    have hlen : lenV CC 81 e.kv = some (.int .i64 (e.kids.length : Int)) := by
      unfold Ex.kv
      rw [exL_map]
      cases hkk : e.kids with
      | nil => rw [List.map_nil, lenV_eq]; simp [kidsV, lenAV, hu]
      | cons a l => rw [List.map_cons]; simp only [kidsV]; rw [len_sl hu]; simp
    have hV : ∀ (i : Nat) (a : Ex), e.kids[i]? = some a → iasV 6 e.kv (.int .i64 (i : Int)) = some (.iptr a.v.cells) := by
      intro i a h
      unfold Ex.kv
      rw [exL_map]
      cases hkk : e.kids with
      | nil => rw [hkk] at h; simp at h
      | cons a' l =>
        rw [List.map_cons]
        simp only [kidsV]
        refine iasV_i ?_
        rw [← List.map_cons (f := Ex.v), getF_eq, List.getElem?_map, ← hkk, h]; rfl
    have hb := deepL_le e.kids
    have lp := deep_loop (M := M) (kids := e.kids) (by omega) (fun a ha H => ih a (by have := sizeL_mem ha; omega) (by omega) H) hV e.kids.length 0 rfl 100000 (by have := sizeL_len e.kids; omega) (H ++ [exO e]) (lenF H) (by rw [lenF_eq, lenF_eq, List.length_append]; omega) 0
    rw [List.drop_zero, Nat.zero_max] at lp
    obtain ⟨f, hf⟩ := sk lp
    obtain ⟨r0, hr0, hpre⟩ : ∃ r, (r.a.a.d = .int .i64 ((0 : Nat) : Int) ∧ r.a.a.h = e.kv ∧ r.a.b.a = .int .i64 (e.kids.length : Int) ∧ r.a.b.b = .int .i64 ((0 : Nat) : Int)) ∧ z45.sh (orc CC M) R [] ⟨H, lenF H⟩ = seqK (seqZ (q45_8 (orc CC M)) retZ) (blkK 0 (loopN (q45_7 (orc CC M)) 100000 r [] ⟨H ++ [exO e], lenF H⟩)) := by
      simp only [z45, q45_0, q45_1, q45_2, SIM, ST0, e0, hbx, hlen, Nat.reduceAdd, Nat.reduceLeDiff]
      exact ⟨_, ⟨rfl, rfl, rfl, rfl⟩, rfl⟩
    rw [hpre]
    obtain ⟨L, h1, h2⟩ := hf r0 hr0
    rw [h1, List.append_assoc]
    have ha : addF (deepL e.kids : Int) 1 = ((deepL e.kids + 1 : Nat) : Int) := addF_i _ 1 (by unfold natMax; omega)
    rw [deepE_k]
    simp only [z45, q45_8, SIM, ST0, h2, ha, takeF_app]
end
end Go.Proofs
set_option maxRecDepth 100000
namespace Go.Proofs
open Go Go.Abs

/-- a declaration: name, place, truth?, future?, clock, off -/
structure DeR where
  s : List Nat
  p : Nat
  b : Bool
  f : Bool
  c : List Nat
  o : Bool
abbrev DeR.l (d : DeR) : List AV := [.str d.s, .int .i64 (d.p : Int), .bool d.b, .bool d.f, .str d.c, .bool d.o]
abbrev DeR.v (d : DeR) : AV := .agg d.l

theorem be_176 (s : List Nat) (p : Int) : buildAV CC 93 [(0, .str s), (1, .int .i64 p)] = some (.agg [.str s, .int .i64 p, .bool false, .bool false, .str [], .bool false]) := by kernel_rfl

def fW : List (List Nat) := [[102,117,116,117,114,101]]
def tW : List (List Nat) := [[105,110,116],[98,111,111,108]]
def bW : List Nat := [98,111,111,108]
noncomputable def declS (ts : List TkR) (i : Nat) : Option (DeR × Nat) := nameB ts i fun x j => wantB ts j [58] fun j => tkB ts j fun y => cond (isW y fW)
  (tkB ts (j + 1) fun z => cond (isW z tW) (some (⟨x.t, x.p, strEq z.t bW, true, [], false⟩, j + 2)) none)
  (cond (isW y tW) (some (⟨x.t, x.p, strEq y.t bW, false, [], false⟩, j + 1)) none)

section
variable {M : Memo} {ts : List TkR} {lin : Lin} {n : Nat}
theorem decl_run (m : ParM M) (hlen : ts.length ≤ 90000) {i j : Nat} {d : DeR} (h : declS ts i = some (d, j)) : Runs M 41 [.ptr n 0] n (ts.map TkR.v) lin i d.v j := by
  unfold declS at h
  obtain ⟨x, hx, hxk, h⟩ := nameB_some h
  obtain ⟨y, hy, hyw, h⟩ := wantB_some h
  obtain ⟨z, hz, h⟩ := tkB_some h
  have N := name_x (n := n) (lin := lin) m (getF_map hx) (lt_of hlen hx) hxk
  have W := want_w (n := n) (lin := lin) m (getF_map hy) (lt_of hlen hy) hyw
  refine Runs.of fun H hlt => ?_
  refine begin_ (z := z41) (m _ _ rfl) (by kernel_rfl) rfl ?_
  have e0 : (envOf [AV.ptr n 0] 0 env0).a.a.a = .ptr n 0 := rfl
  generalize envOf [AV.ptr n 0] 0 env0 = R at e0
  cases hw : isW z fW with
  | true =>
    rw [hw] at h
    simp only [cond_true] at h
    obtain ⟨w, hw1, h⟩ := tkB_some h
    obtain ⟨h2, h3⟩ := cond_some h
    simp only [Option.some.injEq, Prod.mk.injEq] at h3
    obtain ⟨rfl, rfl⟩ := h3
    have T := take_t (n := n) (lin := lin) m (getF_map hz) (lt_of hlen hz) (ws := fW) (wa := [.str [102,117,116,117,114,101]]) rfl (by simp) hw
    have T2 := take_t (n := n) (lin := lin) m (getF_map hw1) (lt_of hlen hw1) (ws := tW) (wa := [.str [105,110,116], .str [98,111,111,108]]) rfl (by simp) h2
    have hb : strEq w.t [98,111,111,108] = strEq w.t bW := rfl
    generalize strEq w.t bW = B at hb
    simp only [z41, q41_0, q41_1, q41_2, q41_3, q41_4, q41_5, q41_6, q41_7, q41_8, q41_9, SIM, ST0, ST1, e0, N, W, T, T2, hb, B26, be_176, getF_so hlt, setF_so hlt, EXS, setF_cs, getF_cs, Nat.reduceAdd, Nat.reduceLeDiff, TkR.v]
  | false =>
    rw [hw] at h
    simp only [cond_false] at h
    obtain ⟨h2, h3⟩ := cond_some h
    simp only [Option.some.injEq, Prod.mk.injEq] at h3
    obtain ⟨rfl, rfl⟩ := h3
    have T := take_f (n := n) (lin := lin) m (getF_map hz) (lt_of hlen hz) (ws := fW) (wa := [.str [102,117,116,117,114,101]]) rfl (by simp) hw
    have T2 := take_t (n := n) (lin := lin) m (getF_map hz) (lt_of hlen hz) (ws := tW) (wa := [.str [105,110,116], .str [98,111,111,108]]) rfl (by simp) h2
    have hb : strEq z.t [98,111,111,108] = strEq z.t bW := rfl
    generalize strEq z.t bW = B at hb
    simp only [z41, q41_0, q41_1, q41_2, q41_3, q41_4, q41_5, q41_6, q41_7, q41_8, q41_9, SIM, ST0, ST1, e0, N, W, T, T2, hb, B26, be_176, getF_so hlt, setF_so hlt, EXS, setF_cs, getF_cs, Nat.reduceAdd, Nat.reduceLeDiff, TkR.v]

/-! declarations in brackets -/
def deZ : List DeR → AV
  | [] => .nils
  | l => .sl 6 (l.map DeR.v) .dead
noncomputable def declsL (ts : List TkR) : Nat → Nat → Option (List DeR × Nat)
  | 0, _ => none
  | k + 1, i => match declS ts i with
    | some (d, j) => tkB ts j fun x => cond (isW x [[44]]) (match declsL ts k (j + 1) with
      | some (l, j') => some (d :: l, j')
      | none => none) (cond (isW x [[41]]) (some ([d], j + 1)) none)
    | none => none
noncomputable def declsS (ts : List TkR) (k i : Nat) : Option (List DeR × Nat) := wantB ts i [40] fun j => tkB ts j fun x => cond (isW x [[41]]) (some ([], j + 1)) (declsL ts k j)

theorem se58 : ∃ e, sliceElem CC 43 = some e ∧ e = 93 := ⟨_, by kernel_rfl, rfl⟩
theorem bsl58 (d : DeR) : bslV CC 43 1 [(0, d.v)] = some (.sl 6 [d.v] .lit) := by kernel_rfl
theorem inf176' : (CC.P.info? 93).map (fun i => (i.size, decide (0 < i.bytes ∧ i.bytes ≤ 65536))) = some (6, true) := by kernel_rfl
theorem inf176 : ∃ i, CC.P.info? 93 = some i ∧ i.size = 6 ∧ 0 < i.bytes ∧ i.bytes ≤ 65536 := by
  have h := inf176'
  cases hi : CC.P.info? 93 with
  | none => rw [hi] at h; cases h
  | some i =>
    rw [hi] at h
    simp only [Option.map_some, Option.some.injEq, Prod.mk.injEq, decide_eq_true_eq] at h
    exact ⟨i, rfl, h.1, h.2.1, h.2.2⟩
theorem zero176 : zeroT CC 93 = some (.agg [.str [], .int .i64 0, .bool false, .bool false, .str [], .bool false]) := by kernel_rfl
theorem mut58 (f : Nat) : CC.mutT f 43 = false := by
  show ((43 : Nat) == 63 || (43 : Nat) == 65) = false
  simp
theorem de_ok (d : DeR) : [d.v].all (elemOk 6) = true := rfl
theorem app_nil58 (f : Nat) (d : DeR) (hp : Heap) (e : Nat) : appendAV CC f 43 .nils (.sl 6 [d.v] .lit) ⟨hp, e⟩ = some (.sl 6 [d.v] (.live (lenF hp) 0), ⟨hp ++ [.lin 0], e⟩) := by
  obtain ⟨i, h1, h2, h3, h4⟩ := inf176
  obtain ⟨e', s1, rfl⟩ := se58
  have hne : ¬ (i.size = 0 ∨ i.bytes = 0 ∨ (AV.agg [.str [], .int .i64 0, .bool false, .bool false, .str [], .bool false]).cells.length ≠ i.size ∨ [d.v].all (elemOk i.size) = false ∨ 2 ^ 16 < i.bytes) := by
    rw [h2, de_ok]; simp [AV.cells]; omega
  simp only [appendAV, s1, h1, zero176, elemsAV, if_true, h2, List.isEmpty, mut58, lenF_eq]
  rw [h2] at hne
  rw [if_neg hne]
  simp
theorem app_live58 (f : Nat) {xs : List AV} (d : DeR) {hp : Heap} {e id g : Nat} (hg : getF hp id = some (.lin g)) (hl : xs.length + 1 ≤ 2 ^ 24) :
    appendAV CC f 43 (.sl 6 xs (.live id g)) (.sl 6 [d.v] .lit) ⟨hp, e⟩ = some (.sl 6 (xs ++ [d.v]) (.live id (g + 1)), ⟨setF hp id (.lin (g + 1)), e⟩) := by
  obtain ⟨i, h1, h2, h3, h4⟩ := inf176
  obtain ⟨e', s1, rfl⟩ := se58
  rw [getF_eq] at hg
  have h5 : decide (xs.length + [d.v].length ≤ 2 ^ 24) = true := by simp; omega
  have hne : ¬ (i.size = 0 ∨ i.bytes = 0 ∨ (AV.agg [.str [], .int .i64 0, .bool false, .bool false, .str [], .bool false]).cells.length ≠ i.size ∨ [d.v].all (elemOk i.size) = false ∨ 2 ^ 16 < i.bytes) := by
    rw [h2, de_ok]; simp [AV.cells]; omega
  rw [h2] at hne
  simp only [appendAV, s1, h1, zero176, elemsAV, if_true, h2, h5, List.isEmpty, hg, setF_eq]
  rw [if_neg hne]
  simp
end
end Go.Proofs
set_option maxRecDepth 100000
namespace Go.Proofs
open Go Go.Abs

/-- where a list of declarations stands that is laid on -/
def DecI (b : Nat) (Hc : Heap) (v : AV) (acc : List DeR) : Prop := (acc = [] ∧ v = .nils) ∨ (acc ≠ [] ∧ ∃ id g, v = .sl 6 (acc.map DeR.v) (.live id g) ∧ getF Hc id = some (.lin g) ∧ b ≤ id)

theorem getF_setne {α : Type} {l : List α} {n k : Nat} (h : k ≠ n) (v : α) : getF (setF l n v) k = getF l k := by
  rw [getF_eq, getF_eq, setF_eq, List.getElem?_set_ne (Ne.symm h)]
theorem setF_geD {α : Type} {P L : List α} {id : Nat} (h : P.length ≤ id) (v : α) : setF (P ++ L) id v = P ++ setF L (id - P.length) v := by
  rw [setF_eq, setF_eq, List.set_append_right _ _ h]

/-- how such a list ends -/
def DecE (H : Heap) (n : Nat) (c : AObj) (all : List DeR) (X : IRes) : Prop := ∃ r' G', X = some (.ret, r', [], ⟨setF H n c ++ G', lenF H⟩) ∧ ∃ id g, r'.a.a.c = .sl 6 (all.map DeR.v) (.live id g) ∧ lenF H ≤ id

section
variable {M : Memo} {ts : List TkR} {lin : Lin} {n : Nat}
theorem decls_loop (m : ParM M) (hlen : ts.length ≤ 90000) {H : Heap} (hlt : n < lenF H) : ∀ (k : Nat) (acc : List DeR) (i : Nat) (l : List DeR) (j : Nat), declsL ts k i = some (l, j) → acc.length + k ≤ 100000 → ∀ (fu : Nat), k ≤ fu → ∀ (Hc : Heap), (∃ G, Hc = setF H n (curO (ts.map TkR.v) lin i) ++ G) → ∀ (r : RG),
    (r.a.a.a = .ptr n 0 ∧ DecI (lenF H) Hc r.a.a.d acc) →
    DecE H n (curO (ts.map TkR.v) lin j) (acc ++ l) (loopN (q31_11 (orc CC M)) fu r [] ⟨Hc, lenF H⟩) := by
  intro k
  induction k with
  | zero => intro acc i l j h; cases h
  | succ k ih =>
    intro acc i l j h hak fu hfu Hc hP r ⟨h0, hA⟩
    obtain ⟨fu', rfl⟩ : ∃ f, fu = f + 1 := ⟨fu - 1, by omega⟩
    simp only [declsL] at h
    cases hd : declS ts i with
    | none => rw [hd] at h; cases h
    | some dj =>
      obtain ⟨d, j1⟩ := dj
      rw [hd] at h
      simp only at h
      have D := decl_run (lin := lin) (n := n) m hlen hd
      obtain ⟨x, hx, h⟩ := tkB_some h
      have hx' := getF_map hx
      have hi := lt_of hlen hx
      obtain ⟨G, rfl⟩ := hP
      have hll : ∀ c : AObj, (setF H n c).length = H.length := fun c => by rw [setF_eq, List.length_set]
      have hnl : n < (setF H n (curO (ts.map TkR.v) lin i)).length := by rw [hll]; rw [lenF_eq] at hlt; exact hlt
      have hcn : getF (setF H n (curO (ts.map TkR.v) lin i) ++ G) n = some (curO (ts.map TkR.v) lin i) := getF_so hlt _ _
      have hHc : lenF H ≤ lenF (setF H n (curO (ts.map TkR.v) lin i) ++ G) := by rw [lenF_eq, lenF_eq, List.length_append, hll]; omega
      have hsn : ∀ c, setF (setF H n (curO (ts.map TkR.v) lin i) ++ G) n c = setF H n c ++ G := fun c => setF_so hlt _ _ _
      have hsi : ∀ (c : AObj) (id : Nat) (v : AObj), lenF H ≤ id → ∃ G', setF (setF (setF H n (curO (ts.map TkR.v) lin i) ++ G) n c) id v = setF H n c ++ G' := fun c id v hid => by
        rw [hsn]
        exact ⟨_, setF_geD (by rw [hll, ← lenF_eq]; exact hid) v⟩
      generalize hgen : setF H n (curO (ts.map TkR.v) lin i) ++ G = Hc at *
      have D' := D Hc hcn
      have hltc : n < lenF Hc := by omega
      have hmin : min (lenF H) (lenF Hc) = lenF H := Nat.min_eq_left hHc
      have hmin1 : ∀ q, min (lenF H) (lenF Hc + q) = lenF H := fun q => Nat.min_eq_left (by omega)
      have hmin2 : min (lenF H) (lenF Hc + 1 + 1) = lenF H := Nat.min_eq_left (by omega)
      have hlc : ∀ (c : AObj), lenF (setF Hc n c) = lenF Hc := fun c => lenF_set _ _ _
      have hlc1 : ∀ (c o : AObj), lenF (setF Hc n c ++ [o]) = lenF Hc + 1 := fun c o => by rw [lenF_eq, List.length_append, ← lenF_eq, hlc]; rfl
      cases hw : isW x [[44]] with
      | true =>
        rw [hw] at h
        simp only [cond_true] at h
        cases hl : declsL ts k (j1 + 1) with
        | none => rw [hl] at h; cases h
        | some lj =>
          obtain ⟨l', j'⟩ := lj
          rw [hl] at h
          simp only [Option.some.injEq, Prod.mk.injEq] at h
          obtain ⟨rfl, rfl⟩ := h
          have T := take_t (n := n) (lin := lin) m hx' hi (ws := [[44]]) (wa := [.str [44]]) rfl (by simp) hw
          rcases hA with ⟨ha0, h3⟩ | ⟨ha0, id, g, h3, hid, hidb⟩
          · have T' := fun l => T l (setF Hc n (curO (ts.map TkR.v) lin j1) ++ [.lin 0]) (getF_so hltc _ _)
            simp only [hlc1, setF_so hltc] at T'
            have key := ih [d] (j1 + 1) l' j' hl (by simp; subst ha0; simp at hak; omega) fu' (by omega) (setF Hc n (curO (ts.map TkR.v) lin (j1 + 1)) ++ [.lin 0, .cells [.int .i64 (x.k : Int), .int .i64 (x.p : Int), .str x.t, .int .u64 (x.m : Int)]]) ⟨_, by rw [hsn, List.append_assoc]⟩
            subst ha0
            simp only [loopN, q31_11, q31_6, q31_7, q31_8, SIM, ST0, ST1, h0, h3, D', hmin, hmin1, bsl58, app_nil58, T', hlc, B26, EXS, setF_cs, getF_cs, Nat.reduceAdd, Nat.reduceLeDiff, TkR.v]
            exact key _ ⟨by first | rfl | exact h0, .inr ⟨by simp, lenF Hc, 0, rfl, by rw [← hlc (curO (ts.map TkR.v) lin (j1 + 1)), getF_app0]; rfl, hHc⟩⟩
          · have hne : id ≠ n := by omega
            obtain ⟨G', hG'⟩ := hsi (curO (ts.map TkR.v) lin (j1 + 1)) id (.lin (g + 1)) hidb
            have hgi : getF (setF Hc n (curO (ts.map TkR.v) lin j1)) id = some (.lin g) := by rw [getF_setne hne, hid]
            have hgn : getF (setF (setF Hc n (curO (ts.map TkR.v) lin j1)) id (.lin (g + 1))) n = some (curO (ts.map TkR.v) lin j1) := by rw [getF_setne (Ne.symm hne)]; exact getF_set hcn _
            have happ := fun e => app_live58 31 (xs := acc.map DeR.v) d (e := e) hgi (by rw [List.length_map]; omega)
            have T' := fun l => T l (setF (setF Hc n (curO (ts.map TkR.v) lin j1)) id (.lin (g + 1))) hgn
            have hcomm : setF (setF (setF Hc n (curO (ts.map TkR.v) lin j1)) id (.lin (g + 1))) n (curO (ts.map TkR.v) lin (j1 + 1)) = setF (setF Hc n (curO (ts.map TkR.v) lin (j1 + 1))) id (.lin (g + 1)) := by
              simp only [setF_eq]
              rw [List.set_comm _ _ hne, List.set_set]
            have hl3 : ∀ c v, lenF (setF (setF Hc n c) id v) = lenF Hc := fun c v => by rw [lenF_set, lenF_set]
            have hst3 : ∀ (c l o w : AObj), setF (setF (setF Hc n c) id l ++ [o]) (lenF Hc) w = setF (setF Hc n c) id l ++ [w] := fun c l o w => by
              have e := setF_app0 (setF (setF Hc n c) id l) [o] w
              rw [hl3] at e
              rw [e]; rfl
            rw [hcomm] at T'
            simp only [hl3] at T'
            have key := ih (acc ++ [d]) (j1 + 1) l' j' hl (by simp; omega) fu' (by omega) (setF (setF Hc n (curO (ts.map TkR.v) lin (j1 + 1))) id (.lin (g + 1)) ++ [.cells [.int .i64 (x.k : Int), .int .i64 (x.p : Int), .str x.t, .int .u64 (x.m : Int)]]) ⟨_, by rw [hG', List.append_assoc]⟩
            rw [List.append_assoc] at key
            simp only [loopN, q31_11, q31_6, q31_7, q31_8, SIM, ST0, ST1, h0, h3, D', hmin, hmin1, bsl58, happ, T', hlc, hl3, hst3, B26, EXS, setF_cs, getF_cs, Nat.reduceAdd, Nat.reduceLeDiff, TkR.v]
            exact key _ ⟨by first | rfl | exact h0, .inr ⟨by simp, id, g + 1, by simp, getF_old (by rw [getF_eq, setF_eq, List.getElem?_set_self]; rw [setF_eq, List.length_set]; exact getF_lt hid) _, hidb⟩⟩
      | false =>
        rw [hw] at h
        simp only [cond_false] at h
        obtain ⟨hw2, h2⟩ := cond_some h
        simp only [Option.some.injEq, Prod.mk.injEq] at h2
        obtain ⟨rfl, rfl⟩ := h2
        have T := take_f (n := n) (lin := lin) m hx' hi (ws := [[44]]) (wa := [.str [44]]) rfl (by simp) hw
        have W := want_w (n := n) (lin := lin) m hx' hi hw2
        have htok : ∀ Y : Heap, getF Y n = some (curO (ts.map TkR.v) lin j1) → ∀ l o, orc CC M 29 [.ptr n 0, .sl 1 [.str [41]] l] (Y ++ [o]) = some (.ret x.v (setF Y n (curO (ts.map TkR.v) lin (j1 + 1)) ++ [o]) (lenF Y + 1)) := fun Y hY l o => by
          rw [W l (Y ++ [o]) (getF_old hY _), setF_old hY, lenF_eq, List.length_append, ← lenF_eq]; rfl
        rcases hA with ⟨ha0, h3⟩ | ⟨ha0, id, g, h3, hid, hidb⟩
        · have hY : getF (setF Hc n (curO (ts.map TkR.v) lin j1) ++ [.lin 0]) n = some (curO (ts.map TkR.v) lin j1) := getF_so hltc _ _
          have T' := fun l => T l _ hY
          have W' := fun l o => htok _ hY l o
          simp only [hlc1, setF_so hltc, List.append_assoc, List.cons_append, List.nil_append] at T' W'
          subst ha0
          simp only [loopN, q31_11, q31_6, q31_7, q31_8, q31_9, q31_10, SIM, ST0, ST1, h0, h3, D', hmin, hmin1, bsl58, app_nil58, T', W', hlc, B26, EXS, setF_cs, getF_cs, Nat.reduceAdd, Nat.reduceLeDiff, TkR.v]
          rw [hmin2, hsn, List.append_assoc]
          exact ⟨_, _, rfl, lenF Hc, 0, rfl, hHc⟩
        · have hne : id ≠ n := by omega
          obtain ⟨G', hG'⟩ := hsi (curO (ts.map TkR.v) lin (j1 + 1)) id (.lin (g + 1)) hidb
          have hgi : getF (setF Hc n (curO (ts.map TkR.v) lin j1)) id = some (.lin g) := by rw [getF_setne hne, hid]
          have hgn : getF (setF (setF Hc n (curO (ts.map TkR.v) lin j1)) id (.lin (g + 1))) n = some (curO (ts.map TkR.v) lin j1) := by rw [getF_setne (Ne.symm hne)]; exact getF_set hcn _
          have happ := fun e => app_live58 31 (xs := acc.map DeR.v) d (e := e) hgi (by rw [List.length_map]; omega)
          have T' := fun l => T l (setF (setF Hc n (curO (ts.map TkR.v) lin j1)) id (.lin (g + 1))) hgn
          have W' := fun l o => htok _ hgn l o
          have hcomm : setF (setF (setF Hc n (curO (ts.map TkR.v) lin j1)) id (.lin (g + 1))) n (curO (ts.map TkR.v) lin (j1 + 1)) = setF (setF Hc n (curO (ts.map TkR.v) lin (j1 + 1))) id (.lin (g + 1)) := by
            simp only [setF_eq]
            rw [List.set_comm _ _ hne, List.set_set]
          have hl3 : ∀ c v, lenF (setF (setF Hc n c) id v) = lenF Hc := fun c v => by rw [lenF_set, lenF_set]
          have hst3 : ∀ (c l o w : AObj), setF (setF (setF Hc n c) id l ++ [o]) (lenF Hc) w = setF (setF Hc n c) id l ++ [w] := fun c l o w => by
            have e := setF_app0 (setF (setF Hc n c) id l) [o] w
            rw [hl3] at e
            rw [e]; rfl
          rw [hcomm] at W'
          simp only [hl3] at T' W'
          simp only [loopN, q31_11, q31_6, q31_7, q31_8, q31_9, q31_10, SIM, ST0, ST1, h0, h3, D', hmin, hmin1, bsl58, happ, T', W', hlc, hl3, hst3, B26, EXS, setF_cs, getF_cs, Nat.reduceAdd, Nat.reduceLeDiff, TkR.v]
          rw [hG', List.append_assoc]
          exact ⟨_, _, rfl, id, g + 1, by simp, hidb⟩

theorem de_noN : ∀ l : List DeR, noNL (l.map DeR.v) = true
  | [] => rfl
  | a :: l => by rw [List.map_cons, noNL_cons, de_noN l]; rfl
theorem keep51 : CC.keep 31 = false := by kernel_rfl
theorem decls_run (m : ParM M) (hlen : ts.length ≤ 90000) {k i j : Nat} {l : List DeR} (hk : k ≤ 90000) (h : declsS ts k i = some (l, j)) : Runs M 31 [.ptr n 0] n (ts.map TkR.v) lin i (deZ l) j := by
  unfold declsS at h
  obtain ⟨x, hx, hxw, h⟩ := wantB_some h
  obtain ⟨y, hy, h⟩ := tkB_some h
  have W := want_w (n := n) (lin := lin) m (getF_map hx) (lt_of hlen hx) hxw
  refine Runs.of fun H hlt => ?_
  refine begin_ (z := z31) (m _ _ rfl) (by kernel_rfl) rfl ?_
  have e0 : (envOf [AV.ptr n 0] 0 env0).a.a.a = .ptr n 0 := rfl
  generalize envOf [AV.ptr n 0] 0 env0 = R at e0
  have hlS : lenF (setF H n (curO (ts.map TkR.v) lin i)) = lenF H := lenF_set _ _ _
  cases hw : isW y [[41]] with
  | true =>
    rw [hw] at h
    simp only [cond_true, Option.some.injEq, Prod.mk.injEq] at h
    obtain ⟨rfl, rfl⟩ := h
    have T := take_t (n := n) (lin := lin) m (getF_map hy) (lt_of hlen hy) (ws := [[41]]) (wa := [.str [41]]) rfl (by simp) hw
    simp only [z31, q31_0, q31_1, q31_2, q31_3, q31_4, q31_5, SIM, ST0, ST1, e0, W, T, B26, getF_so hlt, getF_so0 hlt, setF_so hlt, setF_ss, EXS, setF_cs, getF_cs, Nat.reduceAdd, Nat.reduceLeDiff, TkR.v, deZ]
  | false =>
    rw [hw] at h
    simp only [cond_false] at h
    have T := take_f (n := n) (lin := lin) m (getF_map hy) (lt_of hlen hy) (ws := [[41]]) (wa := [.str [41]]) rfl (by simp) hw
    obtain ⟨r0, G0, hr0, hpre⟩ : ∃ r G, (r.a.a.a = .ptr n 0 ∧ DecI (lenF H) (setF H n (curO (ts.map TkR.v) lin (i + 1)) ++ G) r.a.a.d []) ∧ z31.sh (orc CC M) R [] ⟨setF H n (curO (ts.map TkR.v) lin i), lenF (setF H n (curO (ts.map TkR.v) lin i))⟩ = blkK 0 (loopN (q31_11 (orc CC M)) 100000 r [] ⟨setF H n (curO (ts.map TkR.v) lin (i + 1)) ++ G, lenF H⟩) := by
      simp only [z31, q31_0, q31_1, q31_2, q31_3, q31_4, q31_5, SIM, ST0, ST1, e0, W, T, B26, getF_so hlt, getF_so0 hlt, setF_so hlt, setF_ss, EXS, setF_cs, getF_cs, Nat.reduceAdd, Nat.reduceLeDiff, TkR.v]
      exact ⟨_, _, ⟨by first | rfl | exact e0, .inl ⟨rfl, rfl⟩⟩, rfl⟩
    rw [hpre]
    obtain ⟨r1, G1, h1, id, g, h2, hid⟩ := decls_loop (lin := lin) (n := n) m hlen hlt k [] (i + 1) l j h (by simp; omega) 100000 (by omega) _ ⟨G0, rfl⟩ r0 hr0
    rw [h1, hlS]
    have hne : l ≠ [] := by
      intro hl
      subst hl
      cases k with
      | zero => cases h
      | succ k =>
        simp only [declsL] at h
        split at h
        · obtain ⟨z, hz, h⟩ := tkB_some h
          cases hb : isW z [[44]] with
          | true => rw [hb] at h; simp only [cond_true] at h; split at h <;> cases h
          | false => rw [hb] at h; simp only [cond_false] at h; obtain ⟨_, h⟩ := cond_some h; cases h
        · cases h
    have hgc := fun hp => gc_live1 (sz := 6) (l := l.map DeR.v) (id := id) (g := g) (base := lenF H) (hp := hp) (de_noN l) hid
    have hdz : deZ l = .sl 6 (l.map DeR.v) .dead := by
      cases l with
      | nil => exact absurd rfl hne
      | cons a l => rfl
    rw [hdz]
    rw [List.nil_append] at h2
    have ht : takeF (lenF H) (setF H n (curO (ts.map TkR.v) lin j) ++ G1) = setF H n (curO (ts.map TkR.v) lin j) := by
      have := takeF_app (setF H n (curO (ts.map TkR.v) lin j)) G1
      rwa [lenF_set] at this
    simp only [z31, SIM, ST0, h2, keep51, hgc, ht, Nat.reduceAdd, Nat.reduceLeDiff]
end
end Go.Proofs
set_option maxRecDepth 100000
namespace Go.Proofs
open Go Go.Abs
theorem seqZ_as (a b c : CZ) : seqZ (seqZ a b) c = seqZ a (seqZ b c) := by
  funext r ds s
  simp only [seqZ]
  cases a r ds s with
  | none => rfl
  | some x => obtain ⟨e, r1, ds1, s1⟩ := x; cases e <;> rfl
theorem fldV_a2 (ag : Option Nat) (off : Nat) (cs : List AV) : fldV ag off (.agg cs) = partV ag cs off := rfl

def whW : List (List Nat) := [[119,104,101,110]]
def ntW : List (List Nat) := [[110,111,116]]
noncomputable def varS (ts : List TkR) (i : Nat) : Option (DeR × Nat) := match declS ts i with
  | some (d, j) => tkB ts j fun x => cond (isW x whW)
      (tkB ts (j + 1) fun y => cond (isW y ntW) (nameB ts (j + 2) fun z j2 => wantB ts j2 [59] fun j3 => some ({ d with c := z.t, o := true }, j3))
        (nameB ts (j + 1) fun z j2 => wantB ts j2 [59] fun j3 => some ({ d with c := z.t, o := false }, j3)))
      (wantB ts j [59] fun j3 => some (d, j3))
  | none => none

noncomputable section
def varP (rec : RecT) : CZ := seqZ (q32_5 rec) (seqZ (seqZ (q32_6 rec) (seqZ (q32_7 rec) (condZ (.t 30) (seqZ (q32_8 rec) (q32_9 rec)) skipZ))) (q32_10 rec))
end
theorem q52_eq (rec : RecT) : q32_14 rec = blkZ 1 (seqZ (varP rec) (seqZ (q32_11 rec) (seqZ (q32_12 rec) (condZ (.t 59) (seqZ (q32_13 rec) retZ) skipZ)))) := by
  unfold q32_14 varP
  simp only [seqZ_as]

section
variable {M : Memo} {ts : List TkR} {lin : Lin} {n : Nat}
theorem declS_o {i j : Nat} {d : DeR} (h : declS ts i = some (d, j)) : d.c = [] ∧ d.o = false := by
  unfold declS at h
  obtain ⟨x, _, _, h⟩ := nameB_some h
  obtain ⟨y, _, _, h⟩ := wantB_some h
  obtain ⟨z, _, h⟩ := tkB_some h
  cases hw : isW z fW with
  | true =>
    rw [hw] at h
    simp only [cond_true] at h
    obtain ⟨w, _, h⟩ := tkB_some h
    obtain ⟨_, h3⟩ := cond_some h
    simp only [Option.some.injEq, Prod.mk.injEq] at h3
    obtain ⟨rfl, rfl⟩ := h3
    exact ⟨rfl, rfl⟩
  | false =>
    rw [hw] at h
    simp only [cond_false] at h
    obtain ⟨_, h3⟩ := cond_some h
    simp only [Option.some.injEq, Prod.mk.injEq] at h3
    obtain ⟨rfl, rfl⟩ := h3
    exact ⟨rfl, rfl⟩

/-- one of a node's own names, up to its end -/
theorem var_run (m : ParM M) (hlen : ts.length ≤ 90000) {i j : Nat} {d : DeR} (h : varS ts i = some (d, j)) {Hc : Heap} {b : Nat} (hb : b ≤ lenF Hc) (hn : getF Hc n = some (curO (ts.map TkR.v) lin i)) {r : RG} (h0 : r.a.a.a = .ptr n 0) :
    ∃ r' K, varP (orc CC M) r [] ⟨Hc, b⟩ = some (.normal, r', [], ⟨setF Hc n (curO (ts.map TkR.v) lin j) ++ (.cells d.l :: K), b⟩) ∧ r'.a.a.a = .ptr n 0 ∧ r'.a.a.g = .ptr (lenF Hc) 0 ∧ r'.a.a.d = r.a.a.d := by
  unfold varS at h
  cases hd : declS ts i with
  | none => rw [hd] at h; cases h
  | some dj =>
    obtain ⟨d1, j1⟩ := dj
    rw [hd] at h
    simp only at h
    obtain ⟨hdc, hdo⟩ := declS_o hd
    have D := decl_run (lin := lin) (n := n) m hlen hd Hc hn
    obtain ⟨x, hx, h⟩ := tkB_some h
    have hlt : n < lenF Hc := by rw [lenF_eq]; exact getF_lt hn
    have hmin : min b (lenF Hc) = b := Nat.min_eq_left hb
    have hmin1 : ∀ q, min b (lenF Hc + q) = b := fun q => Nat.min_eq_left (by omega)
    have hlc1 : ∀ (c : AObj) (K : Heap), lenF (setF Hc n c ++ K) = lenF Hc + lenF K := fun c K => by rw [lenF_eq, List.length_append, ← lenF_eq, lenF_set, ← lenF_eq]
    cases hw : isW x whW with
    | true =>
      rw [hw] at h
      simp only [cond_true] at h
      obtain ⟨y, hy, h⟩ := tkB_some h
      have T := take_t (n := n) (lin := lin) m (getF_map hx) (lt_of hlen hx) (ws := whW) (wa := [.str [119,104,101,110]]) rfl (by simp) hw
      cases hw2 : isW y ntW with
      | true =>
        rw [hw2] at h
        simp only [cond_true] at h
        obtain ⟨z, hz, hzk, h⟩ := nameB_some h
        obtain ⟨w, hwt, hww, h⟩ := wantB_some h
        simp only [Option.some.injEq, Prod.mk.injEq] at h
        obtain ⟨rfl, rfl⟩ := h
        have T2 := take_t (n := n) (lin := lin) m (getF_map hy) (lt_of hlen hy) (ws := ntW) (wa := [.str [110,111,116]]) rfl (by simp) hw2
        have N := name_x (n := n) (lin := lin) m (getF_map hz) (lt_of hlen hz) hzk
        have W := want_w (n := n) (lin := lin) m (getF_map hwt) (lt_of hlen hwt) hww
        simp only [varP, q32_5, q32_6, q32_7, q32_8, q32_9, q32_10, SIM, ST0, ST1, h0, D, T, T2, N, W, hmin, hmin1, hlc1, B26, fldV_a2, getF_so hlt, setF_so hlt, EXS, setF_cs, getF_cs, Nat.reduceAdd, Nat.reduceLeDiff, TkR.v]
        exact ⟨_, _, rfl, rfl, rfl, rfl⟩
      | false =>
        rw [hw2] at h
        simp only [cond_false] at h
        obtain ⟨z, hz, hzk, h⟩ := nameB_some h
        obtain ⟨w, hwt, hww, h⟩ := wantB_some h
        simp only [Option.some.injEq, Prod.mk.injEq] at h
        obtain ⟨rfl, rfl⟩ := h
        have T2 := take_f (n := n) (lin := lin) m (getF_map hy) (lt_of hlen hy) (ws := ntW) (wa := [.str [110,111,116]]) rfl (by simp) hw2
        have N := name_x (n := n) (lin := lin) m (getF_map hz) (lt_of hlen hz) hzk
        have W := want_w (n := n) (lin := lin) m (getF_map hwt) (lt_of hlen hwt) hww
        simp only [varP, q32_5, q32_6, q32_7, q32_8, q32_9, q32_10, SIM, ST0, ST1, h0, D, T, T2, N, W, hmin, hmin1, hlc1, B26, fldV_a2, getF_so hlt, setF_so hlt, EXS, setF_cs, getF_cs, Nat.reduceAdd, Nat.reduceLeDiff, TkR.v]
        exact ⟨_, _, rfl, rfl, rfl, rfl⟩
    | false =>
      rw [hw] at h
      simp only [cond_false] at h
      obtain ⟨w, hwt, hww, h⟩ := wantB_some h
      simp only [Option.some.injEq, Prod.mk.injEq] at h
      obtain ⟨rfl, rfl⟩ := h
      have T := take_f (n := n) (lin := lin) m (getF_map hx) (lt_of hlen hx) (ws := whW) (wa := [.str [119,104,101,110]]) rfl (by simp) hw
      have W := want_w (n := n) (lin := lin) m (getF_map hwt) (lt_of hlen hwt) hww
      simp only [varP, q32_5, q32_6, q32_7, q32_8, q32_9, q32_10, SIM, ST0, ST1, h0, D, T, W, hmin, hmin1, hlc1, B26, fldV_a2, getF_so hlt, setF_so hlt, EXS, setF_cs, getF_cs, Nat.reduceAdd, Nat.reduceLeDiff, TkR.v]
      exact ⟨_, _, rfl, rfl, rfl, rfl⟩

noncomputable def varsL (ts : List TkR) : Nat → Nat → Option (List DeR × Nat)
  | 0, _ => none
  | k + 1, i => match varS ts i with
    | some (d, j) => tkB ts j fun x => cond (isW x [[108,101,116]]) (some ([d], j)) (match varsL ts k j with
      | some (l, j') => some (d :: l, j')
      | none => none)
    | none => none
noncomputable def varsS (ts : List TkR) (k i : Nat) : Option (List DeR × Nat) := tkB ts i fun x => cond (isW x [[118,97,114]]) (varsL ts k (i + 1)) (some ([], i))

theorem vars_loop (m : ParM M) (hlen : ts.length ≤ 90000) {H : Heap} (hlt : n < lenF H) : ∀ (k : Nat) (acc : List DeR) (i : Nat) (l : List DeR) (j : Nat), varsL ts k i = some (l, j) → acc.length + k ≤ 100000 → ∀ (fu : Nat), k ≤ fu → ∀ (Hc : Heap), (∃ G, Hc = setF H n (curO (ts.map TkR.v) lin i) ++ G) → ∀ (r : RG),
    (r.a.a.a = .ptr n 0 ∧ DecI (lenF H) Hc r.a.a.d acc) →
    DecE H n (curO (ts.map TkR.v) lin j) (acc ++ l) (loopN (q32_14 (orc CC M)) fu r [] ⟨Hc, lenF H⟩) := by
  intro k
  induction k with
  | zero => intro acc i l j h; cases h
  | succ k ih =>
    intro acc i l j h hak fu hfu Hc hP r ⟨h0, hA⟩
    obtain ⟨fu', rfl⟩ : ∃ f, fu = f + 1 := ⟨fu - 1, by omega⟩
    simp only [varsL] at h
    cases hd : varS ts i with
    | none => rw [hd] at h; cases h
    | some dj =>
      obtain ⟨d, j1⟩ := dj
      rw [hd] at h
      simp only at h
      obtain ⟨x, hx, h⟩ := tkB_some h
      have hx' := getF_map hx
      obtain ⟨G, rfl⟩ := hP
      have hll : ∀ c : AObj, (setF H n c).length = H.length := fun c => by rw [setF_eq, List.length_set]
      have hHl : lenF H = H.length := lenF_eq H
      have hcn : getF (setF H n (curO (ts.map TkR.v) lin i) ++ G) n = some (curO (ts.map TkR.v) lin i) := getF_so hlt _ _
      have hHc : lenF H ≤ lenF (setF H n (curO (ts.map TkR.v) lin i) ++ G) := by rw [lenF_eq, lenF_eq, List.length_append, hll]; omega
      have hsn : ∀ c, setF (setF H n (curO (ts.map TkR.v) lin i) ++ G) n c = setF H n c ++ G := fun c => setF_so hlt _ _ _
      have hsi : ∀ (c : AObj) (K : Heap) (id : Nat) (v : AObj), lenF H ≤ id → ∃ G', setF (setF (setF H n (curO (ts.map TkR.v) lin i) ++ G) n c ++ K) id v = setF H n c ++ G' := fun c K id v hid => by
        rw [hsn, List.append_assoc]
        exact ⟨_, setF_geD (by rw [hll, ← lenF_eq]; exact hid) v⟩
      generalize setF H n (curO (ts.map TkR.v) lin i) ++ G = Hc at *
      obtain ⟨r1, K, hrun, h01, h6, h31⟩ := var_run (lin := lin) (n := n) m hlen hd hHc hcn h0
      rw [q52_eq]
      have hltc : n < lenF Hc := by omega
      have hnl : n < (setF Hc n (curO (ts.map TkR.v) lin j1)).length := by rw [setF_eq, List.length_set, ← lenF_eq]; exact hltc
      have hobj : getF (setF Hc n (curO (ts.map TkR.v) lin j1) ++ (.cells d.l :: K)) (lenF Hc) = some (.cells d.l) := by
        rw [← lenF_set Hc n (curO (ts.map TkR.v) lin j1), getF_app0]; rfl
      have hlen1 : lenF Hc ≤ lenF (setF Hc n (curO (ts.map TkR.v) lin j1) ++ (.cells d.l :: K)) := by rw [lenF_eq, lenF_eq, List.length_append, setF_eq, List.length_set]; omega
      have hcur : getF (setF Hc n (curO (ts.map TkR.v) lin j1) ++ (.cells d.l :: K)) n = some (curO (ts.map TkR.v) lin j1) := getF_so hltc _ _
      have hloop : ∀ X : CZ, loopN X (fu' + 1) r [] ⟨Hc, lenF H⟩ = seqK (loopN X fu') (X r [] ⟨Hc, lenF H⟩) := fun X => rfl
      rw [hloop]
      rw [blkZ_u, seqZ_u, hrun, seqK_n]
      rw [← h31] at hA
      have hnew0 : ∀ Q, ∃ G', setF Hc n (curO (ts.map TkR.v) lin j1) ++ (.cells d.l :: K) ++ Q = setF H n (curO (ts.map TkR.v) lin j1) ++ G' := fun Q => ⟨G ++ ((.cells d.l :: K) ++ Q), by rw [hsn, List.append_assoc, List.append_assoc]⟩
      have hsi' := fun id v hid => hsi (curO (ts.map TkR.v) lin j1) (.cells d.l :: K) id v hid
      have hA1 : (acc = [] ∧ r1.a.a.d = .nils) ∨ (acc ≠ [] ∧ ∃ id g, r1.a.a.d = .sl 6 (acc.map DeR.v) (.live id g) ∧ getF (setF Hc n (curO (ts.map TkR.v) lin j1) ++ (.cells d.l :: K)) id = some (.lin g) ∧ lenF H ≤ id) := by
        rcases hA with h | ⟨h1, id, g, h2, h3, h4⟩
        · exact .inl h
        · exact .inr ⟨h1, id, g, h2, getF_old (by rw [getF_setne (by omega), h3]) _, h4⟩
      generalize setF Hc n (curO (ts.map TkR.v) lin j1) ++ (.cells d.l :: K) = Hd at *
      have hmin : ∀ q, min (lenF H) (lenF Hd + q) = lenF H := fun q => Nat.min_eq_left (by omega)
      have hmin0 : min (lenF H) (lenF Hd) = lenF H := Nat.min_eq_left (by omega)
      have hl1 : ∀ o : AObj, lenF (Hd ++ [o]) = lenF Hd + 1 := fun o => by simp [lenF_eq]
      have htail : ∀ {b : Bool}, isW x [[108,101,116]] = b → ∀ (Y : Heap), getF Y n = some (curO (ts.map TkR.v) lin j1) → ∀ l, orc CC M 33 [.ptr n 0, .sl 1 [.str [108,101,116]] l] Y = some (.ret (.bool b) Y (lenF Y)) := fun hb Y hY l => is_w (n := n) (lin := lin) m hx' (ws := [[108,101,116]]) (wa := [.str [108,101,116]]) rfl (by simp) hb l Y hY
      rcases hA1 with ⟨ha0, h3⟩ | ⟨ha0, id, g, h3, hid, hidb⟩
      · have hY : getF (Hd ++ [.lin 0]) n = some (curO (ts.map TkR.v) lin j1) := getF_old hcur _
        cases hw : isW x [[108,101,116]] with
        | true =>
          rw [hw] at h
          simp only [cond_true, Option.some.injEq, Prod.mk.injEq] at h
          obtain ⟨rfl, rfl⟩ := h
          have I := htail hw _ hY
          subst ha0
          simp only [q32_11, q32_12, q32_13, SIM, ST0, ST1, h01, h6, h3, hobj, bsl58, app_nil58, I, hl1, hmin, hmin0, B26, Nat.reduceAdd, Nat.reduceLeDiff]
          obtain ⟨G', hG'⟩ := hnew0 [.lin 0]
          rw [hG']
          exact ⟨_, _, rfl, lenF Hd, 0, rfl, by omega⟩
        | false =>
          rw [hw] at h
          simp only [cond_false] at h
          cases hl : varsL ts k j1 with
          | none => rw [hl] at h; cases h
          | some lj =>
            obtain ⟨l', j'⟩ := lj
            rw [hl] at h
            simp only [Option.some.injEq, Prod.mk.injEq] at h
            obtain ⟨rfl, rfl⟩ := h
            have I := htail hw _ hY
            have key := ih [d] j1 l' j' hl (by simp; subst ha0; simp at hak; omega) fu' (by omega) (Hd ++ [.lin 0]) (hnew0 _)
            subst ha0
            rw [q52_eq] at key
            simp only [q32_11, q32_12, q32_13, SIM, ST0, ST1, h01, h6, h3, hobj, bsl58, app_nil58, I, hl1, hmin, hmin0, B26, Nat.reduceAdd, Nat.reduceLeDiff]
            exact key _ ⟨by first | rfl | exact h01, .inr ⟨by simp, lenF Hd, 0, rfl, by rw [getF_app0]; rfl, by omega⟩⟩
      · have hne : n ≠ id := by omega
        have happ := fun e => app_live58 32 (xs := acc.map DeR.v) d (e := e) hid (by rw [List.length_map]; omega)
        have hY : getF (setF Hd id (.lin (g + 1))) n = some (curO (ts.map TkR.v) lin j1) := by rw [getF_setne hne, hcur]
        have hl3 : ∀ v, lenF (setF Hd id v) = lenF Hd := fun v => lenF_set _ _ _
        obtain ⟨G', hG'⟩ := hsi' id (.lin (g + 1)) hidb
        cases hw : isW x [[108,101,116]] with
        | true =>
          rw [hw] at h
          simp only [cond_true, Option.some.injEq, Prod.mk.injEq] at h
          obtain ⟨rfl, rfl⟩ := h
          have I := htail hw _ hY
          simp only [q32_11, q32_12, q32_13, SIM, ST0, ST1, h01, h6, h3, hobj, bsl58, happ, I, hl3, hmin, hmin0, B26, Nat.reduceAdd, Nat.reduceLeDiff]
          rw [hG']
          exact ⟨_, _, rfl, id, g + 1, by simp, hidb⟩
        | false =>
          rw [hw] at h
          simp only [cond_false] at h
          cases hl : varsL ts k j1 with
          | none => rw [hl] at h; cases h
          | some lj =>
            obtain ⟨l', j'⟩ := lj
            rw [hl] at h
            simp only [Option.some.injEq, Prod.mk.injEq] at h
            obtain ⟨rfl, rfl⟩ := h
            have I := htail hw _ hY
            have key := ih (acc ++ [d]) j1 l' j' hl (by simp; omega) fu' (by omega) (setF Hd id (.lin (g + 1))) ⟨G', hG'⟩
            rw [List.append_assoc, q52_eq] at key
            simp only [q32_11, q32_12, q32_13, SIM, ST0, ST1, h01, h6, h3, hobj, bsl58, happ, I, hl3, hmin, hmin0, B26, Nat.reduceAdd, Nat.reduceLeDiff]
            exact key _ ⟨by first | rfl | exact h01, .inr ⟨by simp, id, g + 1, by simp, getF_set hid _, hidb⟩⟩

theorem keep52 : CC.keep 32 = false := by kernel_rfl
theorem varsL_ne : ∀ {k i : Nat} {l : List DeR} {j : Nat}, varsL ts k i = some (l, j) → l ≠ []
  | 0, _, _, _, h => by cases h
  | k + 1, i, l, j, h => by
    simp only [varsL] at h
    split at h
    · obtain ⟨z, hz, h⟩ := tkB_some h
      cases hb : isW z [[108,101,116]] with
      | true => rw [hb] at h; simp only [cond_true, Option.some.injEq, Prod.mk.injEq] at h; rw [← h.1]; simp
      | false => rw [hb] at h; simp only [cond_false] at h; split at h <;> simp at h; rw [← h.1]; simp
    · cases h
theorem vars_run (m : ParM M) (hlen : ts.length ≤ 90000) {k i j : Nat} {l : List DeR} (hk : k ≤ 90000) (h : varsS ts k i = some (l, j)) : Runs M 32 [.ptr n 0] n (ts.map TkR.v) lin i (deZ l) j := by
  unfold varsS at h
  obtain ⟨y, hy, h⟩ := tkB_some h
  refine Runs.of fun H hlt => ?_
  refine begin_ (z := z32) (m _ _ rfl) (by kernel_rfl) rfl ?_
  have e0 : (envOf [AV.ptr n 0] 0 env0).a.a.a = .ptr n 0 := rfl
  generalize envOf [AV.ptr n 0] 0 env0 = R at e0
  have hlS : lenF (setF H n (curO (ts.map TkR.v) lin i)) = lenF H := lenF_set _ _ _
  cases hw : isW y [[118,97,114]] with
  | false =>
    rw [hw] at h
    simp only [cond_false, Option.some.injEq, Prod.mk.injEq] at h
    obtain ⟨rfl, rfl⟩ := h
    have T := take_f (n := n) (lin := lin) m (getF_map hy) (lt_of hlen hy) (ws := [[118,97,114]]) (wa := [.str [118,97,114]]) rfl (by simp) hw
    simp only [z32, q32_0, q32_1, q32_2, q32_3, q32_4, SIM, ST0, ST1, e0, T, B26, getF_so hlt, getF_so0 hlt, setF_so hlt, setF_ss, EXS, setF_cs, getF_cs, Nat.reduceAdd, Nat.reduceLeDiff, TkR.v, deZ]
  | true =>
    rw [hw] at h
    simp only [cond_true] at h
    have T := take_t (n := n) (lin := lin) m (getF_map hy) (lt_of hlen hy) (ws := [[118,97,114]]) (wa := [.str [118,97,114]]) rfl (by simp) hw
    obtain ⟨r0, G0, hr0, hpre⟩ : ∃ r G, (r.a.a.a = .ptr n 0 ∧ DecI (lenF H) (setF H n (curO (ts.map TkR.v) lin (i + 1)) ++ G) r.a.a.d []) ∧ z32.sh (orc CC M) R [] ⟨setF H n (curO (ts.map TkR.v) lin i), lenF (setF H n (curO (ts.map TkR.v) lin i))⟩ = blkK 0 (loopN (q32_14 (orc CC M)) 100000 r [] ⟨setF H n (curO (ts.map TkR.v) lin (i + 1)) ++ G, lenF H⟩) := by
      simp only [z32, q32_0, q32_1, q32_2, q32_3, q32_4, SIM, ST0, ST1, e0, T, B26, getF_so hlt, getF_so0 hlt, setF_so hlt, setF_ss, EXS, setF_cs, getF_cs, Nat.reduceAdd, Nat.reduceLeDiff, TkR.v]
      exact ⟨_, _, ⟨by first | rfl | exact e0, .inl ⟨rfl, rfl⟩⟩, rfl⟩
    rw [hpre]
    obtain ⟨r1, G1, h1, id, g, h2, hid⟩ := vars_loop (lin := lin) (n := n) m hlen hlt k [] (i + 1) l j h (by simp; omega) 100000 (by omega) _ ⟨G0, rfl⟩ r0 hr0
    rw [h1, hlS]
    have hgc := fun hp => gc_live1 (sz := 6) (l := l.map DeR.v) (id := id) (g := g) (base := lenF H) (hp := hp) (de_noN l) hid
    have hdz : deZ l = .sl 6 (l.map DeR.v) .dead := by
      cases l with
      | nil => exact absurd rfl (varsL_ne h)
      | cons a l => rfl
    rw [hdz]
    rw [List.nil_append] at h2
    have ht : takeF (lenF H) (setF H n (curO (ts.map TkR.v) lin j) ++ G1) = setF H n (curO (ts.map TkR.v) lin j) := by
      have := takeF_app (setF H n (curO (ts.map TkR.v) lin j)) G1
      rwa [lenF_set] at this
    simp only [z32, SIM, ST0, h2, keep52, hgc, ht, Nat.reduceAdd, Nat.reduceLeDiff]
end
end Go.Proofs
set_option maxRecDepth 100000
namespace Go.Proofs
open Go Go.Abs
abbrev leV (x : List Nat × Nat) : AV := .agg [.str x.1, .int .i64 (x.2 : Int)]
theorem be_179 (s : List Nat) (p : Int) : buildAV CC 112 [(0, .str s), (1, .int .i64 p)] = some (.agg [.str s, .int .i64 p]) := by kernel_rfl
theorem bsl120 (s : List Nat) (p : Int) : bslV CC 80 1 [(0, .agg [.str s, .int .i64 p])] = some (.sl 2 [.agg [.str s, .int .i64 p]] .lit) := by kernel_rfl
theorem app_nil120 (f : Nat) (hf : CC.mutT f 80 = false) (s : List Nat) (p : Int) (hp : Heap) (e : Nat) : appendAV CC f 80 .nils (.sl 2 [.agg [.str s, .int .i64 p]] .lit) ⟨hp, e⟩ = some (.sl 2 [.agg [.str s, .int .i64 p]] (.live (lenF hp) 0), ⟨hp ++ [.lin 0], e⟩) := by
  obtain ⟨e', s1⟩ : ∃ e', sliceElem CC 80 = some e' ∧ e' = 112 := ⟨_, by kernel_rfl, rfl⟩
  obtain ⟨s1, rfl⟩ := s1
  have hi' : (CC.P.info? 112).map (fun i => (i.size, decide (0 < i.bytes ∧ i.bytes ≤ 65536))) = some (2, true) := by kernel_rfl
  obtain ⟨i, h1, h2, h3, h4⟩ : ∃ i, CC.P.info? 112 = some i ∧ i.size = 2 ∧ 0 < i.bytes ∧ i.bytes ≤ 65536 := by
    cases hi : CC.P.info? 112 with
    | none => rw [hi] at hi'; cases hi'
    | some i =>
      rw [hi] at hi'
      simp only [Option.map_some, Option.some.injEq, Prod.mk.injEq, decide_eq_true_eq] at hi'
      exact ⟨i, rfl, hi'.1, hi'.2.1, hi'.2.2⟩
  have hz : zeroT CC 112 = some (.agg [.str [], .int .i64 0]) := by kernel_rfl
  have hok : [AV.agg [.str s, .int .i64 p]].all (elemOk 2) = true := rfl
  have hne : ¬ (i.size = 0 ∨ i.bytes = 0 ∨ (AV.agg [.str [], .int .i64 0]).cells.length ≠ i.size ∨ [AV.agg [.str s, .int .i64 p]].all (elemOk i.size) = false ∨ 2 ^ 16 < i.bytes) := by
    rw [h2, hok]; simp [AV.cells]; omega
  simp only [appendAV, s1, h1, hz, elemsAV, if_true, h2, List.isEmpty, hf, lenF_eq]
  rw [h2] at hne
  rw [if_neg hne]
  simp
theorem app_live120 (f : Nat) {xs : List AV} (s : List Nat) (p : Int) {hp : Heap} {e id g : Nat} (hg : getF hp id = some (.lin g)) (hl : xs.length + 1 ≤ 2 ^ 24) :
    appendAV CC f 80 (.sl 2 xs (.live id g)) (.sl 2 [.agg [.str s, .int .i64 p]] .lit) ⟨hp, e⟩ = some (.sl 2 (xs ++ [.agg [.str s, .int .i64 p]]) (.live id (g + 1)), ⟨setF hp id (.lin (g + 1)), e⟩) := by
  obtain ⟨e', s1⟩ : ∃ e', sliceElem CC 80 = some e' ∧ e' = 112 := ⟨_, by kernel_rfl, rfl⟩
  obtain ⟨s1, rfl⟩ := s1
  have hi' : (CC.P.info? 112).map (fun i => (i.size, decide (0 < i.bytes ∧ i.bytes ≤ 65536))) = some (2, true) := by kernel_rfl
  obtain ⟨i, h1, h2, h3, h4⟩ : ∃ i, CC.P.info? 112 = some i ∧ i.size = 2 ∧ 0 < i.bytes ∧ i.bytes ≤ 65536 := by
    cases hi : CC.P.info? 112 with
    | none => rw [hi] at hi'; cases hi'
    | some i =>
      rw [hi] at hi'
      simp only [Option.map_some, Option.some.injEq, Prod.mk.injEq, decide_eq_true_eq] at hi'
      exact ⟨i, rfl, hi'.1, hi'.2.1, hi'.2.2⟩
  rw [getF_eq] at hg
  have hz : zeroT CC 112 = some (.agg [.str [], .int .i64 0]) := by kernel_rfl
  have hok : [AV.agg [.str s, .int .i64 p]].all (elemOk 2) = true := rfl
  have h5 : decide (xs.length + [AV.agg [.str s, .int .i64 p]].length ≤ 2 ^ 24) = true := by simp; omega
  have hne : ¬ (i.size = 0 ∨ i.bytes = 0 ∨ (AV.agg [.str [], .int .i64 0]).cells.length ≠ i.size ∨ [AV.agg [.str s, .int .i64 p]].all (elemOk i.size) = false ∨ 2 ^ 16 < i.bytes) := by
    rw [h2, hok]; simp [AV.cells]; omega
  rw [h2] at hne
  simp only [appendAV, s1, h1, hz, elemsAV, if_true, h2, h5, List.isEmpty, hg, setF_eq]
  rw [if_neg hne]
  simp
theorem mut120 (f : Nat) : CC.mutT f 80 = false := by
  show ((80 : Nat) == 63 || (80 : Nat) == 65) = false
  simp

section
variable {M : Memo} {ts : List TkR} {lin : Lin} {n : Nat}
theorem noN_le (x : List Nat × Nat) : noNL [leV x] = true := rfl
/-- a list's name goes into what stood there ahead of the call -/
theorem stoC_up {sz id g b r : Nat} {l R : List AV} {a : AV} {hp : Heap} (hl : noNL l = true) (h1 : id < lenF hp) (h2 : r + 1 ≤ id) :
    stoC 1 0 r (.sl sz l (.live id g)) [.sl sz l (.live id g)] (a :: R) ⟨hp, b⟩ = some ⟨setF hp r (.cells (.sl sz l (.live id g) :: R)), min b r⟩ := by
  have e1 : lowF (lenF hp) (.sl sz l (.live id g)) = true := by rw [lowF_eq, low_live hl]; simpa using h1
  have e2 : lowF (r + 1) (.sl sz l (.live id g)) = false := by rw [lowF_eq, low_live hl]; simp; omega
  have e3 : Nat.ble (Nat.add 0 1) (lenF (a :: R)) = true := by rw [nble, lenF_eq]; simp
  have e5 : Nat.beq (lenF [AV.sl sz l (.live id g)]) 1 = true := rfl
  have e6 : List.all [AV.sl sz l (.live id g)] AV.one = true := rfl
  simp only [stoC, e1, e3, e5, e6, Bool.and_self, cond_true, escF, e2, cond_false]
  rfl
theorem gc_up {keep : Bool} {base e : Nat} {v : AV} {hp : Heap} (h : e ≠ base) : gcF keep base v ⟨hp, e⟩ = .ret v hp e := by
  have h1 : Nat.beq e base = false := by rw [nbeq]; simpa using h
  simp only [gcF, h1, Bool.false_and, cond_false, gcR, gcRet, if_neg h]
/-- the first name of a left side -/
theorem add_0 (m : ParM M) (hlen : ts.length ≤ 90000) {i bx qo : Nat} {x : TkR} (hx : getF ts i = some x) (hxk : x.k = 1) {H : Heap} {R : List AV} (hn : getF H n = some (curO (ts.map TkR.v) lin i)) (hb : getF H bx = some (.cells [.ptr n 0])) (hq : getF H qo = some (.cells (.nils :: R))) (h1 : bx ≠ n) (h2 : qo ≠ n) :
    orc CC M 42 [.ptr bx 0, .ptr qo 0] H = some (.ret Abs.undef (setF (setF H n (curO (ts.map TkR.v) lin (i + 1))) qo (.cells (.sl 2 [leV (x.t, x.p)] (.live (lenF H + 1) 0) :: R)) ++ [.cells [.int .i64 (x.k : Int), .int .i64 (x.p : Int), .str x.t, .int .u64 (x.m : Int)], .lin 0]) qo) := by
  have N := name_x (n := n) (lin := lin) m (getF_map hx) (lt_of hlen hx) hxk
  refine begin_ (z := z42) (m _ _ rfl) (by kernel_rfl) rfl ?_
  have e0 : (envOf [AV.ptr bx 0, .ptr qo 0] 0 env0).a.a.a = .ptr bx 0 := rfl
  have e1 : (envOf [AV.ptr bx 0, .ptr qo 0] 0 env0).a.a.b = .ptr qo 0 := rfl
  generalize envOf [AV.ptr bx 0, .ptr qo 0] 0 env0 = r at e0 e1
  have hlt : n < lenF H := by rw [lenF_eq]; exact getF_lt hn
  have hqlt : qo < lenF H := by rw [lenF_eq]; exact getF_lt hq
  have N' := N H hn
  have hqn : getF (setF H n (curO (ts.map TkR.v) lin (i + 1))) qo = some (.cells (.nils :: R)) := by rw [getF_setne h2, hq]
  have happ := fun hp e => app_nil120 42 (mut120 42) x.t x.p hp e
  have hst : stoC 1 0 qo (.sl 2 [.agg [.str x.t, .int .i64 (x.p : Int)]] (.live (lenF H + 1) 0)) [.sl 2 [.agg [.str x.t, .int .i64 (x.p : Int)]] (.live (lenF H + 1) 0)] (.nils :: R) ⟨setF H n (curO (ts.map TkR.v) lin (i + 1)) ++ [.cells [.int .i64 (x.k : Int), .int .i64 (x.p : Int), .str x.t, .int .u64 (x.m : Int)], .lin 0], lenF H⟩ = _ :=
    stoC_up rfl (by simp [lenF_eq, setF_eq]) (by omega)
  have hmq : min (lenF H) qo = qo := Nat.min_eq_right (by omega)
  have hgc := fun hp => gc_up (keep := CC.keep 42) (base := lenF H) (e := qo) (v := Abs.undef) (hp := hp) (by omega)
  simp only [z42, q42_0, q42_1, SIM, ST0, e0, e1, hb, N', B26, hst, hmq, hgc, be_179, bsl120, happ, getF_old hqn, setF_old hqn, getF_so hlt, setF_so hlt, EXS, setF_cs, getF_cs, Nat.reduceAdd, Nat.reduceLeDiff, TkR.v]
theorem le_noN : ∀ l : List (List Nat × Nat), noNL (l.map leV) = true
  | [] => rfl
  | a :: l => by rw [List.map_cons, noNL_cons, le_noN l]; rfl
/-- one name more -/
theorem add_1 (m : ParM M) (hlen : ts.length ≤ 90000) {i bx qo id g : Nat} {x : TkR} (hx : getF ts i = some x) (hxk : x.k = 1) {H : Heap} {R : List AV} {acc : List (List Nat × Nat)} (hacc : acc.length < 100000) (hn : getF H n = some (curO (ts.map TkR.v) lin i)) (hb : getF H bx = some (.cells [.ptr n 0])) (hq : getF H qo = some (.cells (.sl 2 (acc.map leV) (.live id g) :: R))) (hid : getF H id = some (.lin g)) (h1 : bx ≠ n) (h2 : qo ≠ n) (h3 : id ≠ n) (h4 : qo < id) :
    orc CC M 42 [.ptr bx 0, .ptr qo 0] H = some (.ret Abs.undef (setF (setF (setF H n (curO (ts.map TkR.v) lin (i + 1))) id (.lin (g + 1))) qo (.cells (.sl 2 ((acc ++ [(x.t, x.p)]).map leV) (.live id (g + 1)) :: R)) ++ [.cells [.int .i64 (x.k : Int), .int .i64 (x.p : Int), .str x.t, .int .u64 (x.m : Int)]]) qo) := by
  have N := name_x (n := n) (lin := lin) m (getF_map hx) (lt_of hlen hx) hxk
  refine begin_ (z := z42) (m _ _ rfl) (by kernel_rfl) rfl ?_
  have e0 : (envOf [AV.ptr bx 0, .ptr qo 0] 0 env0).a.a.a = .ptr bx 0 := rfl
  have e1 : (envOf [AV.ptr bx 0, .ptr qo 0] 0 env0).a.a.b = .ptr qo 0 := rfl
  generalize envOf [AV.ptr bx 0, .ptr qo 0] 0 env0 = r at e0 e1
  have hlt : n < lenF H := by rw [lenF_eq]; exact getF_lt hn
  have hidl : id < lenF H := by rw [lenF_eq]; exact getF_lt hid
  have N' := N H hn
  have hqn : getF (setF H n (curO (ts.map TkR.v) lin (i + 1))) qo = some (.cells (.sl 2 (acc.map leV) (.live id g) :: R)) := by rw [getF_setne h2, hq]
  have hin : getF (setF H n (curO (ts.map TkR.v) lin (i + 1))) id = some (.lin g) := by rw [getF_setne h3, hid]
  have hqi : getF (setF (setF H n (curO (ts.map TkR.v) lin (i + 1))) id (.lin (g + 1))) qo = some (.cells (.sl 2 (acc.map leV) (.live id g) :: R)) := by rw [getF_setne (by omega), hqn]
  have happ : ∀ e, appendAV CC 42 80 (.sl 2 (acc.map leV) (.live id g)) (.sl 2 [.agg [.str x.t, .int .i64 (x.p : Int)]] .lit) ⟨setF H n (curO (ts.map TkR.v) lin (i + 1)) ++ [.cells [.int .i64 (x.k : Int), .int .i64 (x.p : Int), .str x.t, .int .u64 (x.m : Int)]], e⟩ = some (.sl 2 ((acc ++ [(x.t, x.p)]).map leV) (.live id (g + 1)), ⟨setF (setF H n (curO (ts.map TkR.v) lin (i + 1))) id (.lin (g + 1)) ++ [.cells [.int .i64 (x.k : Int), .int .i64 (x.p : Int), .str x.t, .int .u64 (x.m : Int)]], e⟩) := fun e => by
    rw [app_live120 42 x.t x.p (getF_old hin _) (by rw [List.length_map]; omega), setF_old hin, List.map_append]
    rfl
  have hst : stoC 1 0 qo (.sl 2 ((acc ++ [(x.t, x.p)]).map leV) (.live id (g + 1))) [.sl 2 ((acc ++ [(x.t, x.p)]).map leV) (.live id (g + 1))] (.sl 2 (acc.map leV) (.live id g) :: R) ⟨setF (setF H n (curO (ts.map TkR.v) lin (i + 1))) id (.lin (g + 1)) ++ [.cells [.int .i64 (x.k : Int), .int .i64 (x.p : Int), .str x.t, .int .u64 (x.m : Int)]], lenF H⟩ = _ :=
    stoC_up (le_noN _) (by simp [lenF_eq, setF_eq] at hidl ⊢; omega) (by omega)
  have hmq : min (lenF H) qo = qo := Nat.min_eq_right (by omega)
  have hgc := fun hp => gc_up (keep := CC.keep 42) (base := lenF H) (e := qo) (v := Abs.undef) (hp := hp) (by omega)
  simp only [z42, q42_0, q42_1, SIM, ST0, e0, e1, hb, N', B26, happ, hst, hmq, hgc, be_179, bsl120, getF_old hqn, getF_old hqi, setF_old hqi, getF_so hlt, setF_so hlt, EXS, setF_cs, getF_cs, Nat.reduceAdd, Nat.reduceLeDiff, TkR.v]
end
end Go.Proofs
set_option maxRecDepth 100000
namespace Go.Proofs
open Go Go.Abs
noncomputable section
def leftP (rec : RecT) : CZ := (seqZ (q34_3 rec) (seqZ (q34_4 rec) (condZ (.t 18) (seqZ (q34_5 rec) (seqZ (q34_6 rec) (seqZ (q34_7 rec) (seqZ (blkZ 0 (loopZ (q34_11 rec))) (q34_12 rec))))) (q34_13 rec))))
end
theorem call76 (a b : AV) (s : St) : callAV CC 42 [a, b] s = some (.call 42 [a, b]) := by kernel_rfl
/-- memory ahead of a left side, and behind it -/
structure LeI (H : Heap) (n : Nat) (c : AObj) (bx qo : Nat) (R : List AV) (L : AV) (Hc : Heap) : Prop where
  pre : ∃ G, Hc = setF H n c ++ G
  hb : getF Hc bx = some (.cells [.ptr n 0])
  hq : getF Hc qo = some (.cells (L :: R))
  bl : H.length ≤ bx
  ql : H.length ≤ qo
  qx : qo = bx + 2
  li : ∀ es id g, L = .sl 2 es (.live id g) → id < lenF Hc
  rs : ∃ cs, getF Hc (bx + 1) = some (.cells cs) ∧ 8 ≤ lenF cs
section
variable {M : Memo} {ts : List TkR} {lin : Lin} {n : Nat}
theorem LeI.cur {H : Heap} {c : AObj} {bx qo : Nat} {R : List AV} {L : AV} {Hc : Heap} (h : LeI H n c bx qo R L Hc) (hn : n < H.length) : getF Hc n = some c := by
  obtain ⟨G, rfl⟩ := h.pre
  exact getF_so (by rw [lenF_eq]; exact hn) _ _
theorem LeI.next {H Hc K K' : Heap} {c c' : AObj} {bx qo : Nat} {R : List AV} {L L' : AV} (hn : n < H.length) (hL : L ≠ .ptr n 0) (I : LeI H n c bx qo R L Hc) (hli : ∀ es id g, L' = .sl 2 es (.live id g) → id < lenF (setF (setF (Hc ++ K) n c') qo (.cells (L' :: R)) ++ K')) : LeI H n c' bx qo R L' (setF (setF (Hc ++ K) n c') qo (.cells (L' :: R)) ++ K') := by
  have hne : bx ≠ qo := by
    intro h
    have h1 := I.hb
    rw [h, I.hq] at h1
    simp only [Option.some.injEq, AObj.cells.injEq, List.cons.injEq] at h1
    exact hL h1.1
  have hb := I.bl
  have hq := I.ql
  have hx := I.qx
  obtain ⟨cs, hcs, hcl⟩ := I.rs
  refine ⟨?_, ?_, ?_, I.bl, I.ql, I.qx, hli, cs, ?_, hcl⟩
  · obtain ⟨G, rfl⟩ := I.pre
    rw [List.append_assoc, setF_so (by rw [lenF_eq]; exact hn), setF_geD (by rw [setF_eq, List.length_set]; exact hq), List.append_assoc]
    exact ⟨_, rfl⟩
  · exact getF_old (by rw [getF_setne hne, getF_setne (by omega)]; exact getF_old I.hb _) _
  · exact getF_old (getF_set (by rw [getF_setne (by omega)]; exact getF_old I.hq _) _) _
  · exact getF_old (by rw [getF_setne (by omega), getF_setne (by omega)]; exact getF_old hcs _) _
theorem left_one (m : ParM M) (hlen : ts.length ≤ 90000) {H Hc : Heap} {i bx qo : Nat} {R : List AV} (hn : n < H.length) (I : LeI H n (curO (ts.map TkR.v) lin i) bx qo R .nils Hc) {x : TkR} (hx : getF ts i = some x) (hxk : x.k = 1) {r : RG}
    (hr : r.a.a.b = .ptr bx 0 ∧ r.a.a.d = .ptr qo 0 ∧ r.a.a.e = .func (.func 42) [] [.ptr bx 0, .ptr qo 0]) :
    ∃ r' Hd id, leftP (orc CC M) r [] ⟨Hc, lenF H⟩ = some (.normal, r', [], ⟨Hd, lenF H⟩) ∧ LeI H n (curO (ts.map TkR.v) lin (i + 1)) bx qo R (.sl 2 [leV (x.t, x.p)] (.live id 0)) Hd ∧ qo < id ∧ r'.a.a.b = .ptr bx 0 ∧ r'.a.a.c = r.a.a.c ∧ r'.a.a.d = .ptr qo 0 := by
  obtain ⟨h1, h3, h4⟩ := hr
  have hcur := I.cur hn
  have hw : isW x [[40]] = false := by unfold isW; rw [hxk]; rfl
  have T := take_f (n := n) (lin := lin) m (getF_map hx) (lt_of hlen hx) (ws := [[40]]) (wa := [.str [40]]) rfl (by simp) hw
  have A := add_0 (n := n) (lin := lin) m hlen hx hxk (H := Hc ++ [.cells [.int .i64 (x.k : Int), .int .i64 (x.p : Int), .str x.t, .int .u64 (x.m : Int)]]) (getF_old hcur _) (getF_old I.hb _) (getF_old I.hq _) (by have := I.bl; omega) (by have := I.ql; omega)
  have T' := fun l => T l Hc hcur
  have hbc := I.hb
  obtain ⟨G, hG⟩ := I.pre
  have hHc : lenF H ≤ lenF Hc := by rw [hG, lenF_eq, lenF_eq, List.length_append, setF_eq, List.length_set]; omega
  have hmin : min (lenF H) (lenF Hc) = lenF H := Nat.min_eq_left hHc
  have hmq : min (lenF H) qo = lenF H := Nat.min_eq_left (by rw [lenF_eq]; exact I.ql)
  simp only [leftP, q34_3, q34_4, q34_13, SIM, ST0, h1, h3, h4, hbc, T', call76, A, hmin, hmq, B26, EXS, setF_cs, getF_cs, Nat.reduceAdd, Nat.reduceLeDiff, TkR.v]
  exact ⟨_, _, _, rfl, I.next hn (by simp) (by intro es id' g' h; cases h; simp [lenF_eq, setF_eq]), by have := getF_lt I.hq; rw [lenF_eq]; omega, rfl, rfl, rfl⟩
end
end Go.Proofs
set_option maxRecDepth 100000
namespace Go.Proofs
open Go Go.Abs
section
variable {M : Memo} {ts : List TkR} {lin : Lin} {n : Nat} {H Hc : Heap} {c : AObj} {bx qo : Nat} {R : List AV} {L : AV}
theorem LeI.setn (hn : n < H.length) (I : LeI H n c bx qo R L Hc) (c' : AObj) : LeI H n c' bx qo R L (setF Hc n c') := by
  have hb := I.bl
  have hq := I.ql
  obtain ⟨cs, hcs, hcl⟩ := I.rs
  refine ⟨?_, by rw [getF_setne (by omega)]; exact I.hb, by rw [getF_setne (by omega)]; exact I.hq, I.bl, I.ql, I.qx, fun es id g h => by rw [lenF_set]; exact I.li es id g h, cs, by rw [getF_setne (by omega)]; exact hcs, hcl⟩
  obtain ⟨G, rfl⟩ := I.pre
  exact ⟨G, setF_so (by rw [lenF_eq]; exact hn) _ _ _⟩
theorem LeI.setq (hn : n < H.length) (hL : L ≠ .ptr n 0) (I : LeI H n c bx qo R L Hc) (R' : List AV) : LeI H n c bx qo R' L (setF Hc qo (.cells (L :: R'))) := by
  have hne : bx ≠ qo := by
    intro h
    have h1 := I.hb
    rw [h, I.hq] at h1
    simp only [Option.some.injEq, AObj.cells.injEq, List.cons.injEq] at h1
    exact hL h1.1
  have hx := I.qx
  obtain ⟨cs, hcs, hcl⟩ := I.rs
  refine ⟨?_, by rw [getF_setne hne]; exact I.hb, getF_set I.hq _, I.bl, I.ql, I.qx, fun es id g h => by rw [lenF_set]; exact I.li es id g h, cs, by rw [getF_setne (by omega)]; exact hcs, hcl⟩
  obtain ⟨G, rfl⟩ := I.pre
  exact ⟨_, setF_geD (by rw [setF_eq, List.length_set]; exact I.ql) _⟩
theorem LeI.len (I : LeI H n c bx qo R L Hc) : lenF H ≤ lenF Hc := by
  obtain ⟨G, rfl⟩ := I.pre
  rw [lenF_eq, lenF_eq, List.length_append, setF_eq, List.length_set]; omega

abbrev zR : List AV := [.bool false, .int .i64 0, .int .i64 0, .int .i64 0, .str [], .bool false, .nils]
/-- '=', and no 'async' -/
theorem eqA_run (m : ParM M) (hlen : ts.length ≤ 90000) {i : Nat} (hn : n < H.length) (hL : L ≠ .ptr n 0) (I : LeI H n (curO (ts.map TkR.v) lin i) bx qo zR L Hc) {x y : TkR} (hx : getF ts i = some x) (hxw : isW x [[61]] = true) (hy : getF ts (i + 1) = some y) (hyw : isW y [[97,115,121,110,99]] = false) {r : RG}
    (hr : r.a.a.b = .ptr bx 0 ∧ r.a.a.d = .ptr qo 0) :
    ∃ r' Hd, seqZ (q34_14 (orc CC M)) (seqZ (q34_15 (orc CC M)) (q34_16 (orc CC M))) r [] ⟨Hc, lenF H⟩ = some (.normal, r', [], ⟨Hd, lenF H⟩) ∧ LeI H n (curO (ts.map TkR.v) lin (i + 1)) bx qo zR L Hd ∧ r'.a.a.b = .ptr bx 0 ∧ r'.a.a.c = r.a.a.c ∧ r'.a.a.d = .ptr qo 0 ∧ r'.a.h.g = .bool false := by
  obtain ⟨h1, h3⟩ := hr
  have W := want_w (n := n) (lin := lin) m (getF_map hx) (lt_of hlen hx) hxw
  have T := take_f (n := n) (lin := lin) m (getF_map hy) (lt_of hlen hy) (ws := [[97,115,121,110,99]]) (wa := [.str [97,115,121,110,99]]) rfl (by simp) hyw
  have I1 := I.setn hn (curO (ts.map TkR.v) lin (i + 1))
  have I2 := I1.setq hn hL zR
  have W' := fun l => W l Hc (I.cur hn)
  have T' := fun l => T l _ (I1.cur hn)
  have hmin : min (lenF H) (lenF Hc) = lenF H := Nat.min_eq_left I.len
  have hls : ∀ c : AObj, lenF (setF Hc n c) = lenF Hc := fun c => lenF_set _ _ _
  simp only [hls] at T'
  have hb := I.hb
  have hb1 := I1.hb
  have hq1 := I1.hq
  have hq2 := I2.hq
  simp only [q34_14, q34_15, q34_16, SIM, ST0, ST1, h1, h3, hb, hb1, hq1, hq2, W', T', hmin, hls, B26, EXS, setF_cs, getF_cs, Nat.reduceAdd, Nat.reduceLeDiff]
  exact ⟨_, _, rfl, I2, h1, rfl, h3, rfl⟩

abbrev eR (b : Bool) (e : Ex) : List AV := [.bool b, .int .i64 (e.k : Int), .int .i64 (e.p : Int), .int .i64 e.n, .str e.s, .bool e.b, e.kv]
/-- the expression behind '=' -/
theorem eqB_run (m : ParM M) {i j : Nat} {e : Ex} {b : Bool} (hn : n < H.length) (hL : L ≠ .ptr n 0) (I : LeI H n (curO (ts.map TkR.v) lin i) bx qo (.bool b :: [.int .i64 0, .int .i64 0, .int .i64 0, .str [], .bool false, .nils]) L Hc) (hE : Runs M 44 [.ptr n 0] n (ts.map TkR.v) lin i e.v j) {r : RG}
    (hr : r.a.a.b = .ptr bx 0 ∧ r.a.a.d = .ptr qo 0) :
    ∃ Hd, q34_18 (orc CC M) r [] ⟨Hc, lenF H⟩ = some (.normal, r, [], ⟨Hd, lenF H⟩) ∧ LeI H n (curO (ts.map TkR.v) lin j) bx qo (eR b e) L Hd := by
  obtain ⟨h1, h3⟩ := hr
  have I1 := I.setn hn (curO (ts.map TkR.v) lin j)
  have I2 := I1.setq hn hL (eR b e)
  have E' := hE Hc (I.cur hn)
  have hmin : min (lenF H) (lenF Hc) = lenF H := Nat.min_eq_left I.len
  have hb := I.hb
  have hq1 := I1.hq
  have hput : putF [L, .bool b, .int .i64 0, .int .i64 0, .int .i64 0, .str [], .bool false, .nils] 2 [.int .i64 (e.k : Int), .int .i64 (e.p : Int), .int .i64 e.n, .str e.s, .bool e.b, e.kv] = L :: eR b e := rfl
  simp only [q34_18, SIM, ST0, ST1, h1, h3, hb, hq1, E', hmin, hput, EXS, setF_cs, getF_cs, Nat.reduceAdd, Nat.reduceLeDiff]
  exact ⟨_, rfl, I2⟩
/-- not too deep, and ';' -/
theorem eqC_run (m : ParM M) (hlen : ts.length ≤ 90000) {i : Nat} {e : Ex} {b : Bool} (hn : n < H.length) (I : LeI H n (curO (ts.map TkR.v) lin i) bx qo (eR b e) L Hc) (hs : sizeE e < 90000) (hd : deepE e ≤ 40) {x : TkR} (hx : getF ts i = some x) (hxw : isW x [[59]] = true) {r : RG}
    (hr : r.a.a.b = .ptr bx 0 ∧ r.a.a.d = .ptr qo 0) :
    ∃ r' Hd, seqZ (seqZ (q34_19 (orc CC M)) (condZ (.t 76) (q34_20 (orc CC M)) skipZ)) (q34_21 (orc CC M)) r [] ⟨Hc, lenF H⟩ = some (.normal, r', [], ⟨Hd, lenF H⟩) ∧ LeI H n (curO (ts.map TkR.v) lin (i + 1)) bx qo (eR b e) L Hd ∧ r'.a.a.b = .ptr bx 0 ∧ r'.a.a.c = r.a.a.c ∧ r'.a.a.d = .ptr qo 0 := by
  obtain ⟨h1, h3⟩ := hr
  have W := want_w (n := n) (lin := lin) m (getF_map hx) (lt_of hlen hx) hxw
  have I1 := I.setn hn (curO (ts.map TkR.v) lin (i + 1))
  have W' := fun l => W l Hc (I.cur hn)
  have hmin : min (lenF H) (lenF Hc) = lenF H := Nat.min_eq_left I.len
  have hb := I.hb
  have hq := I.hq
  have hD := deep_ok (M := M) m (sizeE e) e (Nat.le_refl _) hs Hc
  have hc : decide ((40 : Int) < (deepE e : Int)) = false := by simp; omega
  simp only [q34_19, q34_20, q34_21, SIM, ST0, ST1, ST2, h1, h3, hb, hq, hD, hc, W', hmin, B26, EXS, setF_cs, getF_cs, Nat.reduceAdd, Nat.reduceLeDiff]
  exact ⟨_, _, rfl, I1, h1, rfl, h3⟩
end
end Go.Proofs
set_option maxRecDepth 100000
namespace Go.Proofs
open Go Go.Abs
abbrev qR (l : List (List Nat × Nat)) (n : Lin) (b : Bool) (e : Ex) : List AV := .sl 2 (l.map leV) n :: eR b e
theorem qR_low {l : List (List Nat × Nat)} {id g : Nat} {b : Bool} {e : Ex} (base : Nat) : AV.low base (.agg (qR l (.live id g) b e)) = decide (id < base) := by
  have h1 : lowL base (l.map leV) = true := by
    have := (noN_ok (.agg (l.map leV)) (by rw [noN_agg]; exact le_noN l)).2 base
    simpa only [AV.low] using this
  have h2 : AV.low base e.kv = true := (noN_ok _ (kv_noN e)).2 base
  simp [AV.low, lowL, h1, h2, Lin.low]
theorem qR_stoC {l : List (List Nat × Nat)} {id g r b0 : Nat} {b : Bool} {e : Ex} {cs : List AV} {hp : Heap} (h1 : id < lenF hp) (h2 : r + 1 ≤ id) (h3 : b0 ≤ r) (h4 : 8 ≤ lenF cs) :
    stoC 8 0 r (.agg (qR l (.live id g) b e)) (qR l (.live id g) b e) cs ⟨hp, b0⟩ = some ⟨setF hp r (.cells (putF cs 0 (qR l (.live id g) b e))), b0⟩ := by
  have e1 : lowF (lenF hp) (.agg (qR l (.live id g) b e)) = true := by rw [lowF_eq, qR_low]; simpa using h1
  have e2 : lowF (r + 1) (.agg (qR l (.live id g) b e)) = false := by rw [lowF_eq, qR_low]; simp; omega
  have e3 : Nat.ble (Nat.add 0 8) (lenF cs) = true := by rw [nble]; simpa using h4
  have e4 : min b0 r = b0 := Nat.min_eq_left h3
  have e5 : Nat.beq (lenF (qR l (.live id g) b e)) 8 = true := rfl
  have e6 : List.all (qR l (.live id g) b e) AV.one = true := by
    simp only [List.all_cons, List.all_nil, one_sl, one_bool, one_int, one_str, kv_one, Bool.and_self]
  simp only [stoC, e1, e3, e5, e6, Bool.and_self, cond_true, escF, e2, cond_false, e4]
theorem qR_gc {l : List (List Nat × Nat)} {id g base : Nat} {b : Bool} {e : Ex} {hp : Heap} (hid : base ≤ id) :
    gcF false base (.agg (qR l (.live id g) b e)) ⟨hp, base⟩ = .ret (.agg (qR l .dead b e)) (takeF base hp) base := by
  have h1 : noN (.agg (qR l (.live id g) b e)) = false := rfl
  have h2 : Lin.low base (.live id g) = false := by simp [Lin.low]; omega
  have hk : AV.settle base hp e.kv = e.kv := (noN_ok _ (kv_noN e)).1 base hp
  have h3 : AV.settle base hp (.agg (qR l (.live id g) b e)) = .agg (qR l .dead b e) := by
    simp [AV.settle, settleL, settleL_nn (le_noN l), h2, hk]
  have h4 : AV.low base (.agg (qR l .dead b e)) = true := by
    refine (noN_ok _ ?_).2 base
    simp only [noN_agg, noNL_cons, noNL_nil, noN_sl, linN_dead, le_noN, noN_bool, noN_int, noN_str, kv_noN, cond_true]
  unfold gcF
  rw [h1, Bool.and_false]
  simp only [cond_false, gcR, gcRet, if_true, h3, h4, Bool.false_eq_true, if_false, takeF_eq]
theorem z54_eq (rec : RecT) : z34.sh rec = seqZ (seqZ (q34_0 rec) (seqZ (q34_1 rec) (q34_2 rec))) (seqZ (leftP rec) (seqZ (seqZ (q34_14 rec) (seqZ (q34_15 rec) (q34_16 rec))) (seqZ (condZ (.t 62) (q34_17 rec) (q34_18 rec)) (seqZ (seqZ (seqZ (q34_19 rec) (condZ (.t 76) (q34_20 rec) skipZ)) (q34_21 rec)) (seqZ (q34_22 rec) retZ))))) := by
  simp only [z34, leftP, seqZ_as]
theorem keep54 : CC.keep 34 = false := by kernel_rfl
theorem eq1_run {M : Memo} {ts : List TkR} {lin : Lin} {n : Nat} (m : ParM M) (hlen : ts.length ≤ 90000) {i j k : Nat} {x y z w : TkR} {e : Ex} (hx : getF ts i = some x) (hxk : x.k = 1) (hy : getF ts (i + 1) = some y) (hyw : isW y [[61]] = true) (hz : getF ts (i + 1 + 1) = some z) (hzw : isW z [[97,115,121,110,99]] = false)
    (hk : k ≤ 90000) (he : pp ts k .expr (i + 1 + 1) = some (e, j)) (hs : sizeE e < 90000) (hd : deepE e ≤ 40) (hw : getF ts j = some w) (hww : isW w [[59]] = true) :
    Runs M 34 [.ptr n 0] n (ts.map TkR.v) lin i (.agg (qR [(x.t, x.p)] .dead false e)) (j + 1) := by
  have hE : Runs M 44 [.ptr n 0] n (ts.map TkR.v) lin (i + 1 + 1) e.v j := (pp_ok (lin := lin) (n := n) m hlen k hk).expr he
  refine Runs.of fun H hlt => ?_
  refine begin_ (z := z34) (m _ _ rfl) (by kernel_rfl) rfl ?_
  have e0 : (envOf [AV.ptr n 0] 0 env0).a.a.a = .ptr n 0 := rfl
  generalize envOf [AV.ptr n 0] 0 env0 = R0 at e0
  have hn : n < H.length := by rw [lenF_eq] at hlt; exact hlt
  have hlS : ∀ c : AObj, lenF (setF H n c) = lenF H := fun c => lenF_set _ _ _
  have hlS' : ∀ c : AObj, (setF H n c).length = H.length := fun c => by rw [setF_eq, List.length_set]
  have hbx : bxV (.ptr n 0) H.length = some (.cells [.ptr n 0], (.ptr · 0)) := by
    have h1 : (AV.ptr n 0).cells.all AV.one = true := rfl
    have h2 : AV.low H.length (.ptr n 0) = true := by simp [AV.low, hn]
    unfold bxV
    rw [if_pos ⟨h1, h2⟩]
    rfl
  let Z8 : AObj := .cells (.nils :: zR)
  have I0 : LeI H n (curO (ts.map TkR.v) lin i) (lenF H) (lenF H + 2) zR .nils (setF H n (curO (ts.map TkR.v) lin i) ++ [.cells [.ptr n 0], Z8, Z8]) := by
    refine ⟨⟨_, rfl⟩, ?_, ?_, by rw [lenF_eq]; exact Nat.le_refl _, by rw [lenF_eq]; omega, rfl, (fun es id g h => by cases h), .nils :: zR, by rw [← hlS (curO (ts.map TkR.v) lin i), getF_app]; rfl, Nat.le_refl 8⟩
    · rw [← hlS (curO (ts.map TkR.v) lin i), getF_app0]; rfl
    · rw [← hlS (curO (ts.map TkR.v) lin i), getF_app]; rfl
  obtain ⟨r0, hr0, hpre⟩ : ∃ r, (r.a.a.b = .ptr (lenF H) 0 ∧ r.a.a.c = .ptr (lenF H + 1) 0 ∧ r.a.a.d = .ptr (lenF H + 2) 0 ∧ r.a.a.e = .func (.func 42) [] [.ptr (lenF H) 0, .ptr (lenF H + 2) 0]) ∧
      seqZ (q34_0 (orc CC M)) (seqZ (q34_1 (orc CC M)) (q34_2 (orc CC M))) R0 [] ⟨setF H n (curO (ts.map TkR.v) lin i), lenF H⟩ = some (.normal, r, [], ⟨setF H n (curO (ts.map TkR.v) lin i) ++ [.cells [.ptr n 0], Z8, Z8], lenF H⟩) := by
    simp only [q34_0, q34_1, q34_2, SIM, ST0, e0, hlS', hbx, hlS, Nat.reduceAdd, Nat.reduceLeDiff]
    exact ⟨_, ⟨rfl, rfl, rfl, rfl⟩, rfl⟩
  rw [hlS, z54_eq, seqZ_u, hpre, seqK_n, seqZ_u]
  obtain ⟨r1, H1, id, s1, I1, hid, a1, a2, a3⟩ := left_one m hlen hn I0 hx hxk (r := r0) ⟨hr0.1, hr0.2.2.1, hr0.2.2.2⟩
  rw [s1, seqK_n, seqZ_u]
  obtain ⟨r2, H2, s2, I2, b1, b2, b3, b4⟩ := eqA_run m hlen hn (by simp) I1 hy hyw hz hzw (r := r1) ⟨a1, a3⟩
  rw [s2, seqK_n, seqZ_u]
  obtain ⟨H3, s3, I3⟩ := eqB_run m hn (by simp) I2 hE (r := r2) ⟨b1, b3⟩
  have s3' : condZ (.t 62) (q34_17 (orc CC M)) (q34_18 (orc CC M)) r2 [] ⟨H2, lenF H⟩ = some (.normal, r2, [], ⟨H3, lenF H⟩) := by
    have hg : gx ⟨r2, []⟩ (.t 62) = .bool false := b4
    rw [← s3, condZ_u, hg]
    rfl
  rw [s3', seqK_n, seqZ_u]
  obtain ⟨r4, H4, s4, I4, c1, c2, c3⟩ := eqC_run m hlen hn I3 hs hd hw hww (r := r2) ⟨b1, b3⟩
  rw [s4, seqK_n]
  obtain ⟨cs, hcs, hcl⟩ := I4.rs
  have hid4 : id < lenF H4 := I4.li _ _ _ rfl
  have hst := qR_stoC (l := [(x.t, x.p)]) (id := id) (g := 0) (r := lenF H + 1) (b0 := lenF H) (b := false) (e := e) (cs := cs) (hp := H4) hid4 (by omega) (by omega) hcl
  have hq4 := I4.hq
  have hres : r4.a.a.c = .ptr (lenF H + 1) 0 := by rw [c2, b2, a2]; exact hr0.2.1
  have hqn : ∀ c, getF (setF H4 (lenF H + 1) c) (lenF H + 1) = some c := fun c => getF_set hcs c
  have hput : putF cs 0 (qR [(x.t, x.p)] (.live id 0) false e) = qR [(x.t, x.p)] (.live id 0) false e ++ cs.drop 8 := rfl
  have s5 : q34_22 (orc CC M) r4 [] ⟨H4, lenF H⟩ = some (.normal, r4, [], ⟨setF H4 (lenF H + 1) (.cells (putF cs 0 (qR [(x.t, x.p)] (.live id 0) false e))), lenF H⟩) := by
    simp only [q34_22, SIM, ST0, c3, hres, hq4, hcs, Nat.reduceAdd, Nat.reduceLeDiff]
    exact congrArg (fun o => oB o fun s1 => some (AExit.normal, r4, ([] : Dfs), s1)) hst
  rw [seqZ_u, s5, seqK_n]
  have hres2 : resI r4 (setF H4 (lenF H + 1) (.cells (putF cs 0 (qR [(x.t, x.p)] (.live id 0) false e)))) z34.res = some [.agg (qR [(x.t, x.p)] (.live id 0) false e)] := by
    show resI r4 _ [.cell 2 (some 8)] = _
    rw [resI_c, resI_n, show gt r4 2 = .ptr (lenF H + 1) 0 from hres, ldV_u, hqn]
    have hp8 : ∀ (a b1 b2 b3 b4 b5 b6 b7 : AV) (cs : List AV), partV (some 8) (putF cs 0 [a, b1, b2, b3, b4, b5, b6, b7]) 0 = some (.agg [a, b1, b2, b3, b4, b5, b6, b7]) := fun a b1 b2 b3 b4 b5 b6 b7 cs => by
      rw [putF_2]
      unfold putCells
      rw [List.take_zero, List.nil_append]
      generalize List.drop _ cs = D
      have hb : Nat.ble (Nat.add 0 8) (lenF ([a, b1, b2, b3, b4, b5, b6, b7] ++ D)) = true := by rw [nble, lenF_eq]; simp
      rw [partV_s, hb]
      simp only [List.cons_append, List.nil_append, cond_true, takeF_8, takeF_7, takeF_6, takeF_5, takeF_4, takeF_3, takeF_2, takeF_1, takeF_z, dropF_z]
    simp only [hp8]
  rw [retZ_u, finZ_r, hres2]
  have hpre4 : takeF (lenF H) (setF H4 (lenF H + 1) (.cells (putF cs 0 (qR [(x.t, x.p)] (.live id 0) false e)))) = setF H n (curO (ts.map TkR.v) lin (j + 1)) := by
    obtain ⟨G, hG⟩ := I4.pre
    rw [hG, setF_geD (by rw [hlS', ← lenF_eq]; omega), ← hlS (curO (ts.map TkR.v) lin (j + 1)), takeF_app]
  have hgc := qR_gc (l := [(x.t, x.p)]) (id := id) (g := 0) (base := lenF H) (b := false) (e := e) (hp := setF H4 (lenF H + 1) (.cells (putF cs 0 (qR [(x.t, x.p)] (.live id 0) false e)))) (by omega)
  rw [hpre4] at hgc
  rw [← hgc, ← keep54]
  rfl
end Go.Proofs
set_option maxRecDepth 100000
namespace Go.Proofs
open Go Go.Abs
section
variable {M : Memo} {ts : List TkR} {lin : Lin} {n : Nat} {H Hc : Heap} {c : AObj} {bx qo : Nat} {R : List AV} {L : AV}
abbrev zR2 : List AV := [.bool true, .int .i64 0, .int .i64 0, .int .i64 0, .str [], .bool false, .nils]
/-- '=', and 'async' -/
theorem eqA2_run (m : ParM M) (hlen : ts.length ≤ 90000) {i : Nat} (hn : n < H.length) (hL : L ≠ .ptr n 0) (I : LeI H n (curO (ts.map TkR.v) lin i) bx qo zR L Hc) {x y : TkR} (hx : getF ts i = some x) (hxw : isW x [[61]] = true) (hy : getF ts (i + 1) = some y) (hyw : isW y [[97,115,121,110,99]] = true) {r : RG}
    (hr : r.a.a.b = .ptr bx 0 ∧ r.a.a.d = .ptr qo 0) :
    ∃ r' Hd, seqZ (q34_14 (orc CC M)) (seqZ (q34_15 (orc CC M)) (q34_16 (orc CC M))) r [] ⟨Hc, lenF H⟩ = some (.normal, r', [], ⟨Hd, lenF H⟩) ∧ LeI H n (curO (ts.map TkR.v) lin (i + 1 + 1)) bx qo zR2 L Hd ∧ r'.a.a.b = .ptr bx 0 ∧ r'.a.a.c = r.a.a.c ∧ r'.a.a.d = .ptr qo 0 ∧ r'.a.h.g = .bool true := by
  obtain ⟨h1, h3⟩ := hr
  have W := want_w (n := n) (lin := lin) m (getF_map hx) (lt_of hlen hx) hxw
  have T := take_t (n := n) (lin := lin) m (getF_map hy) (lt_of hlen hy) (ws := [[97,115,121,110,99]]) (wa := [.str [97,115,121,110,99]]) rfl (by simp) hyw
  have I1 := I.setn hn (curO (ts.map TkR.v) lin (i + 1))
  have I1b := I.setn hn (curO (ts.map TkR.v) lin (i + 1 + 1))
  have I2 := I1b.setq hn hL zR2
  have W' := fun l => W l Hc (I.cur hn)
  have T' := fun l => T l _ (I1.cur hn)
  have hmin : min (lenF H) (lenF Hc) = lenF H := Nat.min_eq_left I.len
  have hls : ∀ c : AObj, lenF (setF Hc n c) = lenF Hc := fun c => lenF_set _ _ _
  have hls2 : ∀ c d : AObj, lenF (setF (setF Hc n c) n d) = lenF Hc := fun c d => by rw [lenF_set, lenF_set]
  simp only [hls] at T'
  have hb := I.hb
  have hb1 := I1.hb
  have hq1 := I1.hq
  have hb1b := I1b.hb
  have hq1b := I1b.hq
  have hq2 := I2.hq
  simp only [q34_14, q34_15, q34_16, SIM, ST0, ST1, h1, h3, hb, hb1, hq1, hb1b, hq1b, hq2, W', T', hmin, hls, hls2, B26, EXS, setF_cs, getF_cs, Nat.reduceAdd, Nat.reduceLeDiff]
  exact ⟨_, _, rfl, I2, h1, rfl, h3, rfl⟩
/-- the call behind 'async' -/
theorem eqB2_run (m : ParM M) (hlen : ts.length ≤ 90000) {i j : Nat} {x : TkR} {e : Ex} {b : Bool} (hx : getF ts i = some x) (hxk : x.k = 1) (hn : n < H.length) (hL : L ≠ .ptr n 0) (I : LeI H n (curO (ts.map TkR.v) lin i) bx qo (.bool b :: [.int .i64 0, .int .i64 0, .int .i64 0, .str [], .bool false, .nils]) L Hc) (hE : Runs M 43 [.ptr n 0, x.v] n (ts.map TkR.v) lin (i + 1) e.v j) {r : RG}
    (hr : r.a.a.b = .ptr bx 0 ∧ r.a.a.d = .ptr qo 0) :
    ∃ Hd, q34_17 (orc CC M) r [] ⟨Hc, lenF H⟩ = some (.normal, r, [], ⟨Hd, lenF H⟩) ∧ LeI H n (curO (ts.map TkR.v) lin j) bx qo (eR b e) L Hd := by
  obtain ⟨h1, h3⟩ := hr
  have N := name_x (n := n) (lin := lin) m (getF_map hx) (lt_of hlen hx) hxk
  have I0 := I.setn hn (curO (ts.map TkR.v) lin (i + 1))
  have I1 := I.setn hn (curO (ts.map TkR.v) lin j)
  have I2 := I1.setq hn hL (eR b e)
  have N' := N Hc (I.cur hn)
  have E' := hE _ (I0.cur hn)
  have hls : ∀ c : AObj, lenF (setF Hc n c) = lenF Hc := fun c => lenF_set _ _ _
  simp only [hls] at E'
  have hmin : min (lenF H) (lenF Hc) = lenF H := Nat.min_eq_left I.len
  have hb := I.hb
  have hb0 := I0.hb
  have hq1 := I1.hq
  have hput : putF [L, .bool b, .int .i64 0, .int .i64 0, .int .i64 0, .str [], .bool false, .nils] 2 [.int .i64 (e.k : Int), .int .i64 (e.p : Int), .int .i64 e.n, .str e.s, .bool e.b, e.kv] = L :: eR b e := rfl
  have hsm : AV.same (.ptr n 0) (.ptr n 0) = true := by simp [AV.same]
  simp only [q34_17, SIM, ST0, ST1, h1, h3, hb, hb0, hq1, N', E', hmin, hput, hsm, EXS, setF_cs, getF_cs, Nat.reduceAdd, Nat.reduceLeDiff]
  exact ⟨_, rfl, I2⟩
end
noncomputable def abP (rec : RecT) : CZ := seqZ (seqZ (q34_14 rec) (seqZ (q34_15 rec) (q34_16 rec))) (condZ (.t 62) (q34_17 rec) (q34_18 rec))
theorem z54_eq2 (rec : RecT) : z34.sh rec = seqZ (seqZ (q34_0 rec) (seqZ (q34_1 rec) (q34_2 rec))) (seqZ (leftP rec) (seqZ (abP rec) (seqZ (seqZ (seqZ (q34_19 rec) (condZ (.t 76) (q34_20 rec) skipZ)) (q34_21 rec)) (seqZ (q34_22 rec) retZ)))) := by
  rw [z54_eq]
  simp only [abP, seqZ_as]
/-- what stands behind a left side, up to ';' -/
def AbR (M : Memo) (ts : List TkR) (lin : Lin) (n : Nat) (i j : Nat) (b : Bool) (e : Ex) : Prop :=
  ∀ (H Hc : Heap) (bx qo : Nat) (L : AV) (r : RG), n < H.length → L ≠ .ptr n 0 → LeI H n (curO (ts.map TkR.v) lin i) bx qo zR L Hc → (r.a.a.b = .ptr bx 0 ∧ r.a.a.d = .ptr qo 0) →
    ∃ r' Hd, abP (orc CC M) r [] ⟨Hc, lenF H⟩ = some (.normal, r', [], ⟨Hd, lenF H⟩) ∧ LeI H n (curO (ts.map TkR.v) lin j) bx qo (eR b e) L Hd ∧ r'.a.a.b = .ptr bx 0 ∧ r'.a.a.c = r.a.a.c ∧ r'.a.a.d = .ptr qo 0
theorem ab1 {M : Memo} {ts : List TkR} {lin : Lin} {n : Nat} (m : ParM M) (hlen : ts.length ≤ 90000) {i j k : Nat} {y z : TkR} {e : Ex} (hy : getF ts i = some y) (hyw : isW y [[61]] = true) (hz : getF ts (i + 1) = some z) (hzw : isW z [[97,115,121,110,99]] = false)
    (hk : k ≤ 90000) (he : pp ts k .expr (i + 1) = some (e, j)) : AbR M ts lin n i j false e := by
  intro H Hc bx qo L r hn hL I hr
  have hE : Runs M 44 [.ptr n 0] n (ts.map TkR.v) lin (i + 1) e.v j := (pp_ok (lin := lin) (n := n) m hlen k hk).expr he
  obtain ⟨r2, H2, s2, I2, b1, b2, b3, b4⟩ := eqA_run m hlen hn hL I hy hyw hz hzw hr
  obtain ⟨H3, s3, I3⟩ := eqB_run m hn hL I2 hE (r := r2) ⟨b1, b3⟩
  refine ⟨r2, H3, ?_, I3, b1, b2, b3⟩
  unfold abP
  rw [seqZ_u, s2, seqK_n]
  have hg : gx ⟨r2, []⟩ (.t 62) = .bool false := b4
  rw [← s3, condZ_u, hg]
  rfl
theorem ab2 {M : Memo} {ts : List TkR} {lin : Lin} {n : Nat} (m : ParM M) (hlen : ts.length ≤ 90000) {i j k : Nat} {y z f : TkR} {e : Ex} (hy : getF ts i = some y) (hyw : isW y [[61]] = true) (hz : getF ts (i + 1) = some z) (hzw : isW z [[97,115,121,110,99]] = true) (hf : getF ts (i + 1 + 1) = some f) (hfk : f.k = 1)
    (hk : k ≤ 90000) (he : callS ts (pp ts k) k f (i + 1 + 1 + 1) = some (e, j)) : AbR M ts lin n i j true e := by
  intro H Hc bx qo L r hn hL I hr
  have hE : Runs M 43 [.ptr n 0, f.v] n (ts.map TkR.v) lin (i + 1 + 1 + 1) e.v j := call_run m hlen (pp_ok (lin := lin) (n := n) m hlen k hk) hk he
  obtain ⟨r2, H2, s2, I2, b1, b2, b3, b4⟩ := eqA2_run m hlen hn hL I hy hyw hz hzw hr
  obtain ⟨H3, s3, I3⟩ := eqB2_run m hlen hf hfk hn hL I2 hE (r := r2) ⟨b1, b3⟩
  refine ⟨r2, H3, ?_, I3, b1, b2, b3⟩
  unfold abP
  rw [seqZ_u, s2, seqK_n]
  have hg : gx ⟨r2, []⟩ (.t 62) = .bool true := b4
  rw [← s3, condZ_u, hg]
  rfl
theorem eqG_run {M : Memo} {ts : List TkR} {lin : Lin} {n : Nat} (m : ParM M) (hlen : ts.length ≤ 90000) {i j : Nat} {x w : TkR} {e : Ex} {b : Bool} (hx : getF ts i = some x) (hxk : x.k = 1) (hAB : AbR M ts lin n (i + 1) j b e)
    (hs : sizeE e < 90000) (hd : deepE e ≤ 40) (hw : getF ts j = some w) (hww : isW w [[59]] = true) :
    Runs M 34 [.ptr n 0] n (ts.map TkR.v) lin i (.agg (qR [(x.t, x.p)] .dead b e)) (j + 1) := by
  refine Runs.of fun H hlt => ?_
  refine begin_ (z := z34) (m _ _ rfl) (by kernel_rfl) rfl ?_
  have e0 : (envOf [AV.ptr n 0] 0 env0).a.a.a = .ptr n 0 := rfl
  generalize envOf [AV.ptr n 0] 0 env0 = R0 at e0
  have hn : n < H.length := by rw [lenF_eq] at hlt; exact hlt
  have hlS : ∀ c : AObj, lenF (setF H n c) = lenF H := fun c => lenF_set _ _ _
  have hlS' : ∀ c : AObj, (setF H n c).length = H.length := fun c => by rw [setF_eq, List.length_set]
  have hbx : bxV (.ptr n 0) H.length = some (.cells [.ptr n 0], (.ptr · 0)) := by
    have h1 : (AV.ptr n 0).cells.all AV.one = true := rfl
    have h2 : AV.low H.length (.ptr n 0) = true := by simp [AV.low, hn]
    unfold bxV
    rw [if_pos ⟨h1, h2⟩]
    rfl
  let Z8 : AObj := .cells (.nils :: zR)
  have I0 : LeI H n (curO (ts.map TkR.v) lin i) (lenF H) (lenF H + 2) zR .nils (setF H n (curO (ts.map TkR.v) lin i) ++ [.cells [.ptr n 0], Z8, Z8]) := by
    refine ⟨⟨_, rfl⟩, ?_, ?_, by rw [lenF_eq]; exact Nat.le_refl _, by rw [lenF_eq]; omega, rfl, (fun es id g h => by cases h), .nils :: zR, by rw [← hlS (curO (ts.map TkR.v) lin i), getF_app]; rfl, Nat.le_refl 8⟩
    · rw [← hlS (curO (ts.map TkR.v) lin i), getF_app0]; rfl
    · rw [← hlS (curO (ts.map TkR.v) lin i), getF_app]; rfl
  obtain ⟨r0, hr0, hpre⟩ : ∃ r, (r.a.a.b = .ptr (lenF H) 0 ∧ r.a.a.c = .ptr (lenF H + 1) 0 ∧ r.a.a.d = .ptr (lenF H + 2) 0 ∧ r.a.a.e = .func (.func 42) [] [.ptr (lenF H) 0, .ptr (lenF H + 2) 0]) ∧
      seqZ (q34_0 (orc CC M)) (seqZ (q34_1 (orc CC M)) (q34_2 (orc CC M))) R0 [] ⟨setF H n (curO (ts.map TkR.v) lin i), lenF H⟩ = some (.normal, r, [], ⟨setF H n (curO (ts.map TkR.v) lin i) ++ [.cells [.ptr n 0], Z8, Z8], lenF H⟩) := by
    simp only [q34_0, q34_1, q34_2, SIM, ST0, e0, hlS', hbx, hlS, Nat.reduceAdd, Nat.reduceLeDiff]
    exact ⟨_, ⟨rfl, rfl, rfl, rfl⟩, rfl⟩
  rw [hlS, z54_eq2, seqZ_u, hpre, seqK_n, seqZ_u]
  obtain ⟨r1, H1, id, s1, I1, hid, a1, a2, a3⟩ := left_one m hlen hn I0 hx hxk (r := r0) ⟨hr0.1, hr0.2.2.1, hr0.2.2.2⟩
  rw [s1, seqK_n, seqZ_u]
  obtain ⟨r2, H3, s3, I3, b1, b2, b3⟩ := hAB H H1 _ _ _ r1 hn (by simp) I1 ⟨a1, a3⟩
  rw [s3, seqK_n, seqZ_u]
  obtain ⟨r4, H4, s4, I4, c1, c2, c3⟩ := eqC_run m hlen hn I3 hs hd hw hww (r := r2) ⟨b1, b3⟩
  rw [s4, seqK_n]
  obtain ⟨cs, hcs, hcl⟩ := I4.rs
  have hid4 : id < lenF H4 := I4.li _ _ _ rfl
  have hst := qR_stoC (l := [(x.t, x.p)]) (id := id) (g := 0) (r := lenF H + 1) (b0 := lenF H) (b := b) (e := e) (cs := cs) (hp := H4) hid4 (by omega) (by omega) hcl
  have hq4 := I4.hq
  have hres : r4.a.a.c = .ptr (lenF H + 1) 0 := by rw [c2, b2, a2]; exact hr0.2.1
  have hqn : ∀ c, getF (setF H4 (lenF H + 1) c) (lenF H + 1) = some c := fun c => getF_set hcs c
  have hput : putF cs 0 (qR [(x.t, x.p)] (.live id 0) b e) = qR [(x.t, x.p)] (.live id 0) b e ++ cs.drop 8 := rfl
  have s5 : q34_22 (orc CC M) r4 [] ⟨H4, lenF H⟩ = some (.normal, r4, [], ⟨setF H4 (lenF H + 1) (.cells (putF cs 0 (qR [(x.t, x.p)] (.live id 0) b e))), lenF H⟩) := by
    simp only [q34_22, SIM, ST0, c3, hres, hq4, hcs, Nat.reduceAdd, Nat.reduceLeDiff]
    exact congrArg (fun o => oB o fun s1 => some (AExit.normal, r4, ([] : Dfs), s1)) hst
  rw [seqZ_u, s5, seqK_n]
  have hres2 : resI r4 (setF H4 (lenF H + 1) (.cells (putF cs 0 (qR [(x.t, x.p)] (.live id 0) b e)))) z34.res = some [.agg (qR [(x.t, x.p)] (.live id 0) b e)] := by
    show resI r4 _ [.cell 2 (some 8)] = _
    rw [resI_c, resI_n, show gt r4 2 = .ptr (lenF H + 1) 0 from hres, ldV_u, hqn]
    have hp8 : ∀ (a b1 b2 b3 b4 b5 b6 b7 : AV) (cs : List AV), partV (some 8) (putF cs 0 [a, b1, b2, b3, b4, b5, b6, b7]) 0 = some (.agg [a, b1, b2, b3, b4, b5, b6, b7]) := fun a b1 b2 b3 b4 b5 b6 b7 cs => by
      rw [putF_2]
      unfold putCells
      rw [List.take_zero, List.nil_append]
      generalize List.drop _ cs = D
      have hb : Nat.ble (Nat.add 0 8) (lenF ([a, b1, b2, b3, b4, b5, b6, b7] ++ D)) = true := by rw [nble, lenF_eq]; simp
      rw [partV_s, hb]
      simp only [List.cons_append, List.nil_append, cond_true, takeF_8, takeF_7, takeF_6, takeF_5, takeF_4, takeF_3, takeF_2, takeF_1, takeF_z, dropF_z]
    simp only [hp8]
  rw [retZ_u, finZ_r, hres2]
  have hpre4 : takeF (lenF H) (setF H4 (lenF H + 1) (.cells (putF cs 0 (qR [(x.t, x.p)] (.live id 0) b e)))) = setF H n (curO (ts.map TkR.v) lin (j + 1)) := by
    obtain ⟨G, hG⟩ := I4.pre
    rw [hG, setF_geD (by rw [hlS', ← lenF_eq]; omega), ← hlS (curO (ts.map TkR.v) lin (j + 1)), takeF_app]
  have hgc := qR_gc (l := [(x.t, x.p)]) (id := id) (g := 0) (base := lenF H) (b := b) (e := e) (hp := setF H4 (lenF H + 1) (.cells (putF cs 0 (qR [(x.t, x.p)] (.live id 0) b e)))) (by omega)
  rw [hpre4] at hgc
  rw [← hgc, ← keep54]
  rfl
end Go.Proofs
set_option maxRecDepth 100000
namespace Go.Proofs
open Go Go.Abs
theorem lenF_ap {α : Type} (a b : List α) : lenF (a ++ b) = lenF a + lenF b := by simp [lenF_eq]
/-- an equation: names, async?, expression -/
structure EqR where
  l : List (List Nat × Nat)
  a : Bool
  e : Ex
abbrev EqR.v (q : EqR) : AV := .agg (qR q.l .dead q.a q.e)
def asW : List (List Nat) := [[97,115,121,110,99]]
noncomputable def eqF (ts : List TkR) (x : TkR) (b : Bool) (r : PR) : Option (EqR × Nat) := match r with
  | some (e, j) => cond (Nat.ble (sizeE e + 1) 90000 && Nat.ble (deepE e) 40) (wantB ts j [59] fun j => some (⟨[(x.t, x.p)], b, e⟩, j)) none
  | none => none
noncomputable def eqS (ts : List TkR) (k i : Nat) : Option (EqR × Nat) := nameB ts i fun x j => wantB ts j [61] fun j => tkB ts j fun z => cond (isW z asW)
  (nameB ts (j + 1) fun f j => eqF ts x true (callS ts (pp ts k) k f j)) (eqF ts x false (pp ts k .expr j))
section
variable {M : Memo} {ts : List TkR} {lin : Lin} {n : Nat}
theorem eqF_run (m : ParM M) (hlen : ts.length ≤ 90000) {i j : Nat} {x : TkR} {b : Bool} {r : PR} {q : EqR} (hx : getF ts i = some x) (hxk : x.k = 1) (h : eqF ts x b r = some (q, j)) (hAB : ∀ e j, r = some (e, j) → AbR M ts lin n (i + 1) j b e) :
    Runs M 34 [.ptr n 0] n (ts.map TkR.v) lin i q.v j := by
  cases r with
  | none => cases h
  | some ej =>
    obtain ⟨e, j1⟩ := ej
    simp only [eqF] at h
    obtain ⟨hc, h⟩ := cond_some h
    rw [Bool.and_eq_true, nble, nble, decide_eq_true_eq, decide_eq_true_eq] at hc
    obtain ⟨w, hw, hww, h⟩ := wantB_some h
    simp only [Option.some.injEq, Prod.mk.injEq] at h
    obtain ⟨rfl, rfl⟩ := h
    exact eqG_run m hlen hx hxk (hAB e j1 rfl) (show sizeE e < 90000 by have := hc.1; omega) hc.2 hw hww
theorem eqS_run (m : ParM M) (hlen : ts.length ≤ 90000) {k i j : Nat} {q : EqR} (hk : k ≤ 90000) (h : eqS ts k i = some (q, j)) : Runs M 34 [.ptr n 0] n (ts.map TkR.v) lin i q.v j := by
  unfold eqS at h
  obtain ⟨x, hx, hxk, h⟩ := nameB_some h
  obtain ⟨y, hy, hyw, h⟩ := wantB_some h
  obtain ⟨z, hz, h⟩ := tkB_some h
  cases hzw : isW z asW with
  | true =>
    rw [hzw] at h
    simp only [cond_true] at h
    obtain ⟨f, hf, hfk, h⟩ := nameB_some h
    exact eqF_run m hlen hx hxk h fun e j1 he => ab2 m hlen hy hyw hz hzw hf hfk hk he
  | false =>
    rw [hzw] at h
    simp only [cond_false] at h
    exact eqF_run m hlen hx hxk h fun e j1 he => ab1 m hlen hy hyw hz hzw hk he
end
theorem kv_cases (e : Ex) : e.kv = .nils ∨ ∃ l q, e.kv = .sl 6 l q := by
  unfold Ex.kv
  cases exL e.kids with
  | nil => exact .inl rfl
  | cons a l => exact .inr ⟨_, _, rfl⟩
theorem bsl59 (q : EqR) : bslV CC 44 1 [(0, q.v)] = some (.sl 8 [q.v] .lit) := by
  obtain ⟨l, a, e⟩ := q
  show bslV CC 44 1 [(0, .agg (qR l .dead a e))] = some (.sl 8 [.agg (qR l .dead a e)] .lit)
  obtain h | ⟨m, w, h⟩ := kv_cases e <;> rw [qR, eR, h] <;> kernel_rfl
theorem eq_ok (q : EqR) : [q.v].all (elemOk 8) = true := by
  obtain ⟨l, a, e⟩ := q
  show [AV.agg (qR l .dead a e)].all (elemOk 8) = true
  obtain h | ⟨m, w, h⟩ := kv_cases e <;> rw [qR, eR, h] <;> rfl
theorem eq_noN : ∀ l : List EqR, noNL (l.map EqR.v) = true
  | [] => rfl
  | q :: l => by
    rw [List.map_cons, noNL_cons, eq_noN l]
    simp only [noN_agg, noNL_cons, noNL_nil, noN_sl, linN_dead, le_noN, noN_bool, noN_int, noN_str, kv_noN, cond_true]
theorem le_same : ∀ l : List (List Nat × Nat), sameL (l.map leV) (l.map leV) = true
  | [] => by simp [sameL]
  | a :: l => by rw [List.map_cons]; simp [sameL, AV.same, le_same l]
theorem kv_same (e : Ex) : AV.same e.kv e.kv = true := same_kids (exL_same _)
theorem eq_same : ∀ l : List EqR, sameL (l.map EqR.v) (l.map EqR.v) = true
  | [] => by simp [sameL]
  | q :: l => by rw [List.map_cons]; simp [sameL, AV.same, le_same, kv_same, eq_same l]
theorem se59 : ∃ e, sliceElem CC 44 = some e ∧ e = 85 := ⟨_, by kernel_rfl, rfl⟩
theorem inf125' : (CC.P.info? 85).map (fun i => (i.size, decide (0 < i.bytes ∧ i.bytes ≤ 65536))) = some (8, true) := by kernel_rfl
theorem inf125 : ∃ i, CC.P.info? 85 = some i ∧ i.size = 8 ∧ 0 < i.bytes ∧ i.bytes ≤ 65536 := by
  have h := inf125'
  cases hi : CC.P.info? 85 with
  | none => rw [hi] at h; cases h
  | some i =>
    rw [hi] at h
    simp only [Option.map_some, Option.some.injEq, Prod.mk.injEq, decide_eq_true_eq] at h
    exact ⟨i, rfl, h.1, h.2.1, h.2.2⟩
theorem zero125 : zeroT CC 85 = some (.agg (.nils :: zR)) := by kernel_rfl
theorem mut59 (f : Nat) : CC.mutT f 44 = false := by
  show ((44 : Nat) == 63 || (44 : Nat) == 65) = false
  simp
theorem app_nil59 (f : Nat) (d : EqR) (hp : Heap) (e : Nat) : appendAV CC f 44 .nils (.sl 8 [d.v] .lit) ⟨hp, e⟩ = some (.sl 8 [d.v] (.live (lenF hp) 0), ⟨hp ++ [.lin 0], e⟩) := by
  obtain ⟨i, h1, h2, h3, h4⟩ := inf125
  obtain ⟨e', s1, rfl⟩ := se59
  have hne : ¬ (i.size = 0 ∨ i.bytes = 0 ∨ (AV.agg (.nils :: zR)).cells.length ≠ i.size ∨ [d.v].all (elemOk i.size) = false ∨ 2 ^ 16 < i.bytes) := by
    rw [h2, eq_ok]; simp [AV.cells]; omega
  simp only [appendAV, s1, h1, zero125, elemsAV, if_true, h2, List.isEmpty, mut59, lenF_eq]
  rw [h2] at hne
  rw [if_neg hne]
  simp
theorem app_live59 (f : Nat) {xs : List AV} (d : EqR) {hp : Heap} {e id g : Nat} (hg : getF hp id = some (.lin g)) (hl : xs.length + 1 ≤ 2 ^ 24) :
    appendAV CC f 44 (.sl 8 xs (.live id g)) (.sl 8 [d.v] .lit) ⟨hp, e⟩ = some (.sl 8 (xs ++ [d.v]) (.live id (g + 1)), ⟨setF hp id (.lin (g + 1)), e⟩) := by
  obtain ⟨i, h1, h2, h3, h4⟩ := inf125
  obtain ⟨e', s1, rfl⟩ := se59
  rw [getF_eq] at hg
  have h5 : decide (xs.length + [d.v].length ≤ 2 ^ 24) = true := by simp; omega
  have hne : ¬ (i.size = 0 ∨ i.bytes = 0 ∨ (AV.agg (.nils :: zR)).cells.length ≠ i.size ∨ [d.v].all (elemOk i.size) = false ∨ 2 ^ 16 < i.bytes) := by
    rw [h2, eq_ok]; simp [AV.cells]; omega
  rw [h2] at hne
  simp only [appendAV, s1, h1, zero125, elemsAV, if_true, h2, h5, List.isEmpty, hg, setF_eq]
  rw [if_neg hne]
  simp

/-! equations up to 'tel' -/
noncomputable def eqsL (ts : List TkR) (k : Nat) : Nat → Nat → Option (List EqR × Nat)
  | 0, _ => none
  | f + 1, i => tkB ts i fun x => cond (isW x [[116,101,108]]) (some ([], i)) (match eqS ts k i with
    | some (q, j) => match eqsL ts k f j with
      | some (l, j') => some (q :: l, j')
      | none => none
    | none => none)
abbrev ndC (s : List Nat) (p : Nat) (I O V : List DeR) (L : AV) : List AV := [.str s, .int .i64 (p : Int), deZ I, deZ O, deZ V, L]
def EqI (Hc : Heap) (no : Nat) (L : AV) (acc : List EqR) : Prop := (acc = [] ∧ L = .nils) ∨ (acc ≠ [] ∧ ∃ id g, L = .sl 8 (acc.map EqR.v) (.live id g) ∧ getF Hc id = some (.lin g) ∧ no < id)
structure NoI (H : Heap) (n : Nat) (c : AObj) (P : AV → List AV) (acc : List EqR) (Hc : Heap) : Prop where
  pre : ∃ G, Hc = setF H n c ++ G
  rs : getF Hc (lenF H) = some (.cells [.str [], .int .i64 0, .nils, .nils, .nils, .nils])
  nd : ∃ L, getF Hc (lenF H + 2) = some (.cells (P L)) ∧ EqI Hc (lenF H + 2) L acc
def NoE (H : Heap) (n : Nat) (c : AObj) (P : AV → List AV) (all : List EqR) (X : IRes) : Prop := ∃ r' Hd, X = some (.exit 0, r', [], ⟨Hd, lenF H⟩) ∧ NoI H n c P all Hd ∧ r'.a.a.a = .ptr n 0 ∧ r'.a.a.c = .ptr (lenF H) 0 ∧ r'.a.a.e = .ptr (lenF H + 2) 0
theorem NoI.cur {H : Heap} {n : Nat} {c : AObj} {P : AV → List AV} {acc : List EqR} {Hc : Heap} (h : NoI H n c P acc Hc) (hn : n < lenF H) : getF Hc n = some c := by
  obtain ⟨G, rfl⟩ := h.pre
  exact getF_so hn _ _
theorem NoI.len {H : Heap} {n : Nat} {c : AObj} {P : AV → List AV} {acc : List EqR} {Hc : Heap} (h : NoI H n c P acc Hc) : lenF H ≤ lenF Hc := by
  obtain ⟨G, rfl⟩ := h.pre
  rw [lenF_eq, lenF_eq, List.length_append, setF_eq, List.length_set]; omega
theorem NoI.next {H : Heap} {n : Nat} {c c' : AObj} {P : AV → List AV} {acc acc' : List EqR} {Hc K : Heap} {L' : AV} (hlt : n < lenF H) (I : NoI H n c P acc Hc)
    (hE : EqI (setF (setF Hc n c' ++ K) (lenF H + 2) (.cells (P L'))) (lenF H + 2) L' acc') : NoI H n c' P acc' (setF (setF Hc n c' ++ K) (lenF H + 2) (.cells (P L'))) := by
  obtain ⟨L, hL, _⟩ := I.nd
  refine ⟨?_, ?_, L', getF_set (getF_old (by rw [getF_setne (by omega)]; exact hL) _) _, hE⟩
  · obtain ⟨G, rfl⟩ := I.pre
    rw [setF_so hlt, List.append_assoc]
    exact ⟨_, setF_geD (by rw [setF_eq, List.length_set, lenF_eq]; omega) _⟩
  · rw [getF_setne (by omega)]
    exact getF_old (by rw [getF_setne (by omega)]; exact I.rs) _
theorem NoI.next2 {H : Heap} {n : Nat} {c c' v : AObj} {P : AV → List AV} {acc acc' : List EqR} {Hc : Heap} {L' : AV} {id : Nat} (hlt : n < lenF H) (hid : lenF H + 2 < id) (I : NoI H n c P acc Hc)
    (hE : EqI (setF (setF (setF Hc n c') id v) (lenF H + 2) (.cells (P L'))) (lenF H + 2) L' acc') : NoI H n c' P acc' (setF (setF (setF Hc n c') id v) (lenF H + 2) (.cells (P L'))) := by
  obtain ⟨L, hL, _⟩ := I.nd
  refine ⟨?_, ?_, L', ?_, hE⟩
  · obtain ⟨G, rfl⟩ := I.pre
    rw [setF_so hlt, setF_geD (by rw [setF_eq, List.length_set, ← lenF_eq]; omega)]
    exact ⟨_, setF_geD (by rw [setF_eq, List.length_set, lenF_eq]; omega) _⟩
  · rw [getF_setne (by omega), getF_setne (by omega), getF_setne (by omega)]
    exact I.rs
  · have h1 : getF (setF (setF Hc n c') id v) (lenF H + 2) = some (.cells (P L)) := by rw [getF_setne (by omega), getF_setne (by omega)]; exact hL
    exact getF_set h1 _
theorem nd_put (s : List Nat) (p : Nat) (I O V : List DeR) (L L' : AV) : putF (ndC s p I O V L) 5 [L'] = ndC s p I O V L' := rfl
section
variable {M : Memo} {ts : List TkR} {lin : Lin} {n : Nat}
theorem eqs_loop (m : ParM M) (hlen : ts.length ≤ 90000) {H : Heap} (hlt : n < lenF H) {k : Nat} (hk : k ≤ 90000) {s : List Nat} {p : Nat} {I O V : List DeR} : ∀ (f : Nat) (acc : List EqR) (i : Nat) (l : List EqR) (j : Nat), eqsL ts k f i = some (l, j) → acc.length + f ≤ 100000 → ∀ (fu : Nat), f ≤ fu → ∀ (Hc : Heap), NoI H n (curO (ts.map TkR.v) lin i) (ndC s p I O V) acc Hc → ∀ (r : RG),
    (r.a.a.a = .ptr n 0 ∧ r.a.a.c = .ptr (lenF H) 0 ∧ r.a.a.e = .ptr (lenF H + 2) 0) →
    NoE H n (curO (ts.map TkR.v) lin j) (ndC s p I O V) (acc ++ l) (loopN (q18_10 (orc CC M)) fu r [] ⟨Hc, lenF H⟩) := by
  intro f
  induction f with
  | zero => intro acc i l j h; cases h
  | succ f ih =>
    intro acc i l j h hak fu hfu Hc hP r ⟨h0, h2, h4⟩
    obtain ⟨fu', rfl⟩ : ∃ f, fu = f + 1 := ⟨fu - 1, by omega⟩
    simp only [eqsL] at h
    obtain ⟨x, hx, h⟩ := tkB_some h
    have hcn : getF Hc n = some (curO (ts.map TkR.v) lin i) := by obtain ⟨G, rfl⟩ := hP.pre; exact getF_so hlt _ _
    cases hw : isW x [[116,101,108]] with
    | true =>
      rw [hw] at h
      simp only [cond_true, Option.some.injEq, Prod.mk.injEq] at h
      obtain ⟨rfl, rfl⟩ := h
      have I' := fun l => is_w (n := n) (lin := lin) m (getF_map hx) (ws := [[116,101,108]]) (wa := [.str [116,101,108]]) rfl (by simp) hw l Hc hcn
      have hmin : min (lenF H) (lenF Hc) = lenF H := by obtain ⟨G, rfl⟩ := hP.pre; exact Nat.min_eq_left (by rw [lenF_eq, lenF_eq, List.length_append, setF_eq, List.length_set]; omega)
      simp only [loopN, q18_10, q18_8, SIM, ST0, ST1, h0, I', hmin, B26, Nat.reduceAdd, Nat.reduceLeDiff]
      exact ⟨_, _, rfl, hP, by first | rfl | exact h0, by first | rfl | exact h2, by first | rfl | exact h4⟩
    | false =>
      rw [hw] at h
      simp only [cond_false] at h
      cases hq : eqS ts k i with
      | none => rw [hq] at h; cases h
      | some qj =>
        obtain ⟨q, j1⟩ := qj
        rw [hq] at h
        simp only at h
        cases hl : eqsL ts k f j1 with
        | none => rw [hl] at h; cases h
        | some lj =>
          obtain ⟨l', j'⟩ := lj
          rw [hl] at h
          simp only [Option.some.injEq, Prod.mk.injEq] at h
          obtain ⟨rfl, rfl⟩ := h
          have I' := fun l => is_w (n := n) (lin := lin) m (getF_map hx) (ws := [[116,101,108]]) (wa := [.str [116,101,108]]) rfl (by simp) hw l Hc hcn
          have E := eqS_run (lin := lin) (n := n) m hlen hk hq Hc hcn
          have hmin : min (lenF H) (lenF Hc) = lenF H := by obtain ⟨G, rfl⟩ := hP.pre; exact Nat.min_eq_left (by rw [lenF_eq, lenF_eq, List.length_append, setF_eq, List.length_set]; omega)
          have hll : ∀ c : AObj, lenF (setF Hc n c) = lenF Hc := fun c => lenF_set _ _ _
          obtain ⟨L, hL, hE⟩ := hP.nd
          have hL1 : getF (setF Hc n (curO (ts.map TkR.v) lin j1)) (lenF H + 2) = some (.cells (ndC s p I O V L)) := by rw [getF_setne (by omega), hL]
          have hnl : lenF H + 2 < lenF Hc := by rw [lenF_eq Hc]; exact getF_lt hL
          rcases hE with ⟨rfl, rfl⟩ | ⟨ha0, id, g, rfl, hid, hidb⟩
          · have happ := fun e => app_nil59 18 q (setF Hc n (curO (ts.map TkR.v) lin j1)) e
            simp only [hll] at happ
            have hst : stoC 1 5 (lenF H + 2) (.sl 8 [q.v] (.live (lenF Hc) 0)) [.sl 8 [q.v] (.live (lenF Hc) 0)] (ndC s p I O V .nils) ⟨setF Hc n (curO (ts.map TkR.v) lin j1) ++ [.lin 0], lenF H⟩ = _ :=
              stoC_l1 (eq_noN [q]) (by rw [lenF_ap, hll, show lenF [AObj.lin 0] = 1 from rfl]; omega) (by omega) (by omega) (by rw [lenF_eq]; simp)
            rw [nd_put] at hst
            have hL2 : getF (setF Hc n (curO (ts.map TkR.v) lin j1) ++ [.lin 0]) (lenF H + 2) = some (.cells (ndC s p I O V .nils)) := getF_old hL1 _
            have hNI := hP.next (c' := curO (ts.map TkR.v) lin j1) (K := [.lin 0]) (L' := .sl 8 [q.v] (.live (lenF Hc) 0)) (acc' := [q]) hlt (.inr ⟨by simp, _, _, rfl, by rw [getF_setne (by omega), ← hll (curO (ts.map TkR.v) lin j1), getF_app0]; rfl, hnl⟩)
            have key := ih [q] j1 l' j' hl (by simp at hak ⊢; omega) fu' (by omega) _ hNI
            simp only [loopN, q18_10, q18_8, q18_9, SIM, ST0, ST1, h0, h4, I', E, hL, hL1, hL2, same_nils, bsl59, happ, hst, hmin, B26, Nat.reduceAdd, Nat.reduceLeDiff]
            exact key _ ⟨by first | rfl | exact h0, by first | rfl | exact h2, by first | rfl | exact h4⟩
          · have hgi : getF (setF Hc n (curO (ts.map TkR.v) lin j1)) id = some (.lin g) := by rw [getF_setne (by omega), hid]
            have happ := fun e => app_live59 18 (xs := acc.map EqR.v) q (e := e) hgi (by rw [List.length_map]; omega)
            have hm : acc.map EqR.v ++ [q.v] = (acc ++ [q]).map EqR.v := by simp
            rw [hm] at happ
            have hst : stoC 1 5 (lenF H + 2) (.sl 8 ((acc ++ [q]).map EqR.v) (.live id (g + 1))) [.sl 8 ((acc ++ [q]).map EqR.v) (.live id (g + 1))] (ndC s p I O V (.sl 8 (acc.map EqR.v) (.live id g))) ⟨setF (setF Hc n (curO (ts.map TkR.v) lin j1)) id (.lin (g + 1)), lenF H⟩ = _ :=
              stoC_l1 (eq_noN _) (by rw [lenF_set, hll, lenF_eq]; exact getF_lt hid) (by omega) (by omega) (by rw [lenF_eq]; simp)
            rw [nd_put] at hst
            have hL2 : getF (setF (setF Hc n (curO (ts.map TkR.v) lin j1)) id (.lin (g + 1))) (lenF H + 2) = some (.cells (ndC s p I O V (.sl 8 (acc.map EqR.v) (.live id g)))) := by rw [getF_setne (by omega), hL1]
            have hsm : AV.same (.sl 8 (acc.map EqR.v) (.live id g)) (.sl 8 (acc.map EqR.v) (.live id g)) = true := by simp [AV.same, eq_same]
            have hNI := hP.next2 (c' := curO (ts.map TkR.v) lin j1) (v := .lin (g + 1)) (L' := .sl 8 ((acc ++ [q]).map EqR.v) (.live id (g + 1))) (acc' := acc ++ [q]) hlt hidb (.inr ⟨by simp, _, _, rfl, by rw [getF_setne (by omega)]; exact getF_set hgi _, hidb⟩)
            have key := ih (acc ++ [q]) j1 l' j' hl (by simp; omega) fu' (by omega) _ hNI
            rw [List.append_assoc] at key
            simp only [loopN, q18_10, q18_8, q18_9, SIM, ST0, ST1, h0, h4, I', E, hL, hL1, hL2, hsm, bsl59, happ, hst, hmin, B26, Nat.reduceAdd, Nat.reduceLeDiff]
            exact key _ ⟨by first | rfl | exact h0, by first | rfl | exact h2, by first | rfl | exact h4⟩
end
end Go.Proofs
set_option maxRecDepth 100000
namespace Go.Proofs
open Go Go.Abs
/-- a node: name, place, what comes in, goes out, its own, its equations -/
structure NdR where
  s : List Nat
  p : Nat
  ins : List DeR
  outs : List DeR
  vars : List DeR
  eqs : List EqR
abbrev eqZ (l : List EqR) : AV := .sl 8 (l.map EqR.v) .dead
abbrev NdR.v (d : NdR) : AV := .agg (ndC d.s d.p d.ins d.outs d.vars (eqZ d.eqs))
noncomputable def nodeS (ts : List TkR) (k i : Nat) : Option (NdR × Nat) := wantB ts i [110,111,100,101] fun j => nameB ts j fun x j => match declsS ts k j with
  | none => none
  | some (I, j) => wantB ts j [114,101,116,117,114,110,115] fun j => match declsS ts k j with
    | none => none
    | some (O, j) => match varsS ts k j with
      | none => none
      | some (V, j) => wantB ts j [108,101,116] fun j => match eqsL ts k k j with
        | none => none
        | some ([], _) => none
        | some (q :: E, j) => some (⟨x.t, x.p, I, O, V, q :: E⟩, j + 1)
theorem eqsL_tel {ts : List TkR} {k : Nat} : ∀ {f i : Nat} {l : List EqR} {j : Nat}, eqsL ts k f i = some (l, j) → ∃ x, getF ts j = some x ∧ isW x [[116,101,108]] = true
  | 0, _, _, _, h => by cases h
  | f + 1, i, l, j, h => by
    simp only [eqsL] at h
    obtain ⟨x, hx, h⟩ := tkB_some h
    cases hw : isW x [[116,101,108]] with
    | true =>
      rw [hw] at h
      simp only [cond_true, Option.some.injEq, Prod.mk.injEq] at h
      obtain ⟨rfl, rfl⟩ := h
      exact ⟨x, hx, hw⟩
    | false =>
      rw [hw] at h
      simp only [cond_false] at h
      split at h
      · split at h
        · rename_i h2
          simp only [Option.some.injEq, Prod.mk.injEq] at h
          obtain ⟨rfl, rfl⟩ := h
          exact eqsL_tel h2
        · cases h
      · cases h
theorem deZ_noN (l : List DeR) : noN (deZ l) = true := by
  cases l with
  | nil => rfl
  | cons a l => show noN (.sl 6 ((a :: l).map DeR.v) .dead) = true; rw [noN_sl, linN_dead, de_noN]; rfl
theorem deZ_one (l : List DeR) : AV.one (deZ l) = true := by cases l <;> rfl
theorem be_61 (s : List Nat) (p : Nat) (l : List DeR) : buildAV CC 46 [(0, .str s), (1, .int .i64 (p : Int)), (2, deZ l)] = some (.agg [.str s, .int .i64 (p : Int), deZ l, .nils, .nils, .nils]) := by
  have h1 : ∀ (q : Int), buildAV CC 46 [(0, .str s), (1, .int .i64 q), (2, .nils)] = some (.agg [.str s, .int .i64 q, .nils, .nils, .nils, .nils]) := fun q => by kernel_rfl
  have h2 : ∀ (q : Int) (xs : List AV), buildAV CC 46 [(0, .str s), (1, .int .i64 q), (2, .sl 6 xs .dead)] = some (.agg [.str s, .int .i64 q, .sl 6 xs .dead, .nils, .nils, .nils]) := fun q xs => by kernel_rfl
  cases l with
  | nil => exact h1 p
  | cons a l => exact h2 p _
theorem deZ_cells (l : List DeR) : AV.cells (deZ l) = [deZ l] := by cases l <;> rfl
theorem DZS : (∀ l, AV.cells (deZ l) = [deZ l]) ∧ (∀ l, noN (deZ l) = true) ∧ (∀ l, AV.one (deZ l) = true) ∧ (∀ (s : List Nat) (p : Nat) (l : List DeR), buildAV CC 46 [(0, .str s), (1, .int .i64 (p : Int)), (2, deZ l)] = some (.agg [.str s, .int .i64 (p : Int), deZ l, .nils, .nils, .nils])) :=
  ⟨deZ_cells, deZ_noN, deZ_one, be_61⟩
theorem nd_low {s : List Nat} {p : Nat} {I O V : List DeR} {sz id g : Nat} {l : List AV} (hl : noNL l = true) (base : Nat) : AV.low base (.agg (ndC s p I O V (.sl sz l (.live id g)))) = decide (id < base) := by
  have h := fun l => (noN_ok (deZ l) (deZ_noN l)).2 base
  simp [AV.low, lowL, lowL_nn hl, h, Lin.low]
theorem nd_stoC {s : List Nat} {p : Nat} {I O V : List DeR} {sz id g r b0 : Nat} {l cs : List AV} {hp : Heap} (hl : noNL l = true) (h1 : id < lenF hp) (h2 : r + 1 ≤ id) (h3 : b0 ≤ r) (h4 : 6 ≤ lenF cs) :
    stoC 6 0 r (.agg (ndC s p I O V (.sl sz l (.live id g)))) (ndC s p I O V (.sl sz l (.live id g))) cs ⟨hp, b0⟩ = some ⟨setF hp r (.cells (putF cs 0 (ndC s p I O V (.sl sz l (.live id g))))), b0⟩ := by
  have e1 : lowF (lenF hp) (.agg (ndC s p I O V (.sl sz l (.live id g)))) = true := by rw [lowF_eq, nd_low hl]; simpa using h1
  have e2 : lowF (r + 1) (.agg (ndC s p I O V (.sl sz l (.live id g)))) = false := by rw [lowF_eq, nd_low hl]; simp; omega
  have e3 : Nat.ble (Nat.add 0 6) (lenF cs) = true := by rw [nble]; simpa using h4
  have e4 : min b0 r = b0 := Nat.min_eq_left h3
  have e5 : Nat.beq (lenF (ndC s p I O V (.sl sz l (.live id g)))) 6 = true := rfl
  have e6 : List.all (ndC s p I O V (.sl sz l (.live id g))) AV.one = true := by
    simp only [List.all_cons, List.all_nil, one_sl, one_int, one_str, deZ_one, Bool.and_self]
  simp only [stoC, e1, e3, e5, e6, Bool.and_self, cond_true, escF, e2, cond_false, e4]
theorem nd_gc {s : List Nat} {p : Nat} {I O V : List DeR} {sz id g base : Nat} {l : List AV} {hp : Heap} (hl : noNL l = true) (hid : base ≤ id) :
    gcF false base (.agg (ndC s p I O V (.sl sz l (.live id g)))) ⟨hp, base⟩ = .ret (.agg (ndC s p I O V (.sl sz l .dead))) (takeF base hp) base := by
  have h1 : noN (.agg (ndC s p I O V (.sl sz l (.live id g)))) = false := by
    simp only [noN_agg, noNL_cons, noN_str, noN_int, deZ_noN, cond_true]
    rfl
  have h2 : Lin.low base (.live id g) = false := by simp [Lin.low]; omega
  have hs := fun l => (noN_ok (deZ l) (deZ_noN l)).1 base hp
  have hw := fun l => (noN_ok (deZ l) (deZ_noN l)).2 base
  have h3 : AV.settle base hp (.agg (ndC s p I O V (.sl sz l (.live id g)))) = .agg (ndC s p I O V (.sl sz l .dead)) := by
    simp [AV.settle, settleL, settleL_nn hl, h2, hs]
  have h4 : AV.low base (.agg (ndC s p I O V (.sl sz l .dead))) = true := by
    simp [AV.low, lowL, lowL_nn hl, Lin.low, hw]
  unfold gcF
  rw [h1, Bool.and_false]
  simp only [cond_false, gcR, gcRet, if_true, h3, h4, Bool.false_eq_true, if_false, takeF_eq]
theorem keep29 : CC.keep 18 = false := by kernel_rfl
section
variable {M : Memo} {ts : List TkR} {lin : Lin} {n : Nat}
theorem nodeS_some {k i j : Nat} {d : NdR} (h : nodeS ts k i = some (d, j)) : ∃ x0 x x3 x6 i3 i4 i5 i6, getF ts i = some x0 ∧ isW x0 [[110,111,100,101]] = true ∧ getF ts (i + 1) = some x ∧ x.k = 1 ∧ declsS ts k (i + 1 + 1) = some (d.ins, i3) ∧
    getF ts i3 = some x3 ∧ isW x3 [[114,101,116,117,114,110,115]] = true ∧ declsS ts k (i3 + 1) = some (d.outs, i4) ∧ varsS ts k i4 = some (d.vars, i5) ∧ getF ts i5 = some x6 ∧ isW x6 [[108,101,116]] = true ∧ eqsL ts k k (i5 + 1) = some (d.eqs, i6) ∧ d.eqs ≠ [] ∧ j = i6 + 1 ∧ d.s = x.t ∧ d.p = x.p := by
  unfold nodeS at h
  obtain ⟨x0, h0, h0w, h⟩ := wantB_some h
  obtain ⟨x, hx, hxk, h⟩ := nameB_some h
  cases hD : declsS ts k (i + 1 + 1) with
  | none => rw [hD] at h; cases h
  | some y =>
    obtain ⟨I, i3⟩ := y
    rw [hD] at h
    obtain ⟨x3, h3, h3w, h⟩ := wantB_some h
    cases hD2 : declsS ts k (i3 + 1) with
    | none => rw [hD2] at h; cases h
    | some y =>
      obtain ⟨O, i4⟩ := y
      rw [hD2] at h
      simp only at h
      cases hV : varsS ts k i4 with
      | none => rw [hV] at h; cases h
      | some y =>
        obtain ⟨V, i5⟩ := y
        rw [hV] at h
        obtain ⟨x6, h6, h6w, h⟩ := wantB_some h
        cases hE : eqsL ts k k (i5 + 1) with
        | none => rw [hE] at h; cases h
        | some y =>
          obtain ⟨E, i6⟩ := y
          rw [hE] at h
          cases E with
          | nil => cases h
          | cons q E =>
            simp only [Option.some.injEq, Prod.mk.injEq] at h
            obtain ⟨rfl, rfl⟩ := h
            exact ⟨x0, x, x3, x6, i3, i4, i5, i6, h0, h0w, hx, hxk, by first | exact hD | rfl, h3, h3w, by first | exact hD2 | rfl, by first | exact hV | rfl, h6, h6w, by first | exact hE | rfl, by simp, rfl, rfl, rfl⟩
theorem node_run (m : ParM M) (hlen : ts.length ≤ 90000) {k i j : Nat} {d : NdR} (hk : k ≤ 90000) (h : nodeS ts k i = some (d, j)) : Runs M 18 [.ptr n 0] n (ts.map TkR.v) lin i d.v j := by
  obtain ⟨x0, x, x3, x6, i3, i4, i5, i6, h0, h0w, hx, hxk, hD, h3, h3w, hD2, hV, h6, h6w, hE, hne, rfl, hs, hp⟩ := nodeS_some h
  obtain ⟨s, p, I, O, V, E⟩ := d
  simp only at hD hD2 hV hE hne hs hp
  subst hs hp
  obtain ⟨x7, h7, h7w⟩ := eqsL_tel hE
  refine Runs.of fun H hlt => ?_
  refine begin_ (z := z18) (m _ _ rfl) (by kernel_rfl) rfl ?_
  have e0 : (envOf [AV.ptr n 0] 0 env0).a.a.a = .ptr n 0 := rfl
  generalize envOf [AV.ptr n 0] 0 env0 = R0 at e0
  have hlS : ∀ c : AObj, lenF (setF H n c) = lenF H := fun c => lenF_set _ _ _
  have W0 := want_w (n := n) (lin := lin) m (getF_map h0) (lt_of hlen h0) h0w
  have N := name_x (n := n) (lin := lin) m (getF_map hx) (lt_of hlen hx) hxk
  have D1 := decls_run (n := n) (lin := lin) m hlen hk hD
  have W3 := want_w (n := n) (lin := lin) m (getF_map h3) (lt_of hlen h3) h3w
  have D2 := decls_run (n := n) (lin := lin) m hlen hk hD2
  have V1 := vars_run (n := n) (lin := lin) m hlen hk hV
  have W6 := want_w (n := n) (lin := lin) m (getF_map h6) (lt_of hlen h6) h6w
  obtain ⟨r0, tok, hr0, hpre⟩ : ∃ r tok, (r.a.a.a = .ptr n 0 ∧ r.a.a.c = .ptr (lenF H) 0 ∧ r.a.a.e = .ptr (lenF H + 2) 0) ∧
      z18.sh (orc CC M) R0 [] ⟨setF H n (curO (ts.map TkR.v) lin i), lenF (setF H n (curO (ts.map TkR.v) lin i))⟩ = seqK (seqZ (q18_11 (orc CC M)) (seqZ (q18_12 (orc CC M)) retZ)) (blkK 0 (loopN (q18_10 (orc CC M)) 100000 r []
        ⟨setF H n (curO (ts.map TkR.v) lin (i5 + 1)) ++ [.cells [.str [], .int .i64 0, .nils, .nils, .nils, .nils], tok, .cells (ndC x.t x.p I O V .nils)], lenF H⟩)) := by
    simp only [z18, q18_0, q18_1, q18_2, q18_3, q18_4, q18_5, q18_6, q18_7, SIM, ST0, ST1, e0, W0, N, D1, W3, D2, V1, W6, B26, DZS, appF_eq, getF_so hlt, getF_so0 hlt, setF_so hlt, setF_ss, EXS, setF_cs, getF_cs, Nat.reduceAdd, Nat.reduceLeDiff, TkR.v]
    exact ⟨_, _, ⟨by first | rfl | exact e0, rfl, rfl⟩, rfl⟩
  rw [hpre, hlS]
  have I0 : NoI H n (curO (ts.map TkR.v) lin (i5 + 1)) (ndC x.t x.p I O V) [] (setF H n (curO (ts.map TkR.v) lin (i5 + 1)) ++ [.cells [.str [], .int .i64 0, .nils, .nils, .nils, .nils], tok, .cells (ndC x.t x.p I O V .nils)]) := by
    refine ⟨⟨_, rfl⟩, ?_, .nils, ?_, .inl ⟨rfl, rfl⟩⟩
    · rw [← hlS (curO (ts.map TkR.v) lin (i5 + 1)), getF_app0]; rfl
    · rw [← hlS (curO (ts.map TkR.v) lin (i5 + 1)), getF_app]; rfl
  obtain ⟨r1, H1, hl1, I1, a0, a2, a4⟩ := eqs_loop (lin := lin) (n := n) m hlen hlt hk k [] (i5 + 1) E i6 hE (by simp; omega) 100000 (by omega) _ I0 r0 hr0
  rw [hl1]
  rw [List.nil_append] at I1
  have W7 := fun l => want_w (n := n) (lin := lin) m (getF_map h7) (lt_of hlen h7) h7w l H1 (I1.cur hlt)
  obtain ⟨L, hL, hEI⟩ := I1.nd
  obtain ⟨hE0, _⟩ | ⟨_, id, g, rfl, hid, hidb⟩ := hEI
  · exact absurd hE0 hne
  have hmin : min (lenF H) (lenF H1) = lenF H := Nat.min_eq_left I1.len
  have hrs := I1.rs
  have hL2 : getF (setF H1 n (curO (ts.map TkR.v) lin (i6 + 1))) (lenF H + 2) = some (.cells (ndC x.t x.p I O V (.sl 8 (E.map EqR.v) (.live id g)))) := by rw [getF_setne (by omega), hL]
  have hrs2 : getF (setF H1 n (curO (ts.map TkR.v) lin (i6 + 1))) (lenF H) = some (.cells [.str [], .int .i64 0, .nils, .nils, .nils, .nils]) := by rw [getF_setne (by omega), hrs]
  have hst := nd_stoC (s := x.t) (p := x.p) (I := I) (O := O) (V := V) (sz := 8) (l := E.map EqR.v) (id := id) (g := g) (r := lenF H) (b0 := lenF H) (cs := [.str [], .int .i64 0, .nils, .nils, .nils, .nils]) (hp := setF H1 n (curO (ts.map TkR.v) lin (i6 + 1))) (eq_noN E) (by rw [lenF_set, lenF_eq]; exact getF_lt hid) (by omega) (Nat.le_refl _) (Nat.le_refl _)
  have hput : putF [.str [], .int .i64 0, .nils, .nils, .nils, .nils] 0 (ndC x.t x.p I O V (.sl 8 (E.map EqR.v) (.live id g))) = ndC x.t x.p I O V (.sl 8 (E.map EqR.v) (.live id g)) := rfl
  rw [hput] at hst
  have hH1 : ∀ c, getF (setF (setF H1 n (curO (ts.map TkR.v) lin (i6 + 1))) (lenF H) c) (lenF H) = some c := fun c => getF_set hrs2 c
  have hpre4 : takeF (lenF H) (setF (setF H1 n (curO (ts.map TkR.v) lin (i6 + 1))) (lenF H) (.cells (ndC x.t x.p I O V (.sl 8 (E.map EqR.v) (.live id g))))) = setF H n (curO (ts.map TkR.v) lin (i6 + 1)) := by
    obtain ⟨G, hG⟩ := I1.pre
    rw [hG, setF_so hlt, setF_geD (by rw [setF_eq, List.length_set, ← lenF_eq]; exact Nat.le_refl _), ← hlS (curO (ts.map TkR.v) lin (i6 + 1)), takeF_app]
  have hgc := nd_gc (s := x.t) (p := x.p) (I := I) (O := O) (V := V) (sz := 8) (l := E.map EqR.v) (id := id) (g := g) (base := lenF H) (hp := setF (setF H1 n (curO (ts.map TkR.v) lin (i6 + 1))) (lenF H) (.cells (ndC x.t x.p I O V (.sl 8 (E.map EqR.v) (.live id g))))) (eq_noN E) (by omega)
  rw [hpre4] at hgc
  simp only [q18_11, q18_12, SIM, ST0, a0, a2, a4, W7, B26, hmin, hL2, hrs2, hst, Nat.reduceAdd, Nat.reduceLeDiff]
  simp only [z18, SIM, ST0, a2, hH1, keep29, hgc, Nat.reduceAdd, Nat.reduceLeDiff]
end
end Go.Proofs
set_option maxRecDepth 100000
namespace Go.Proofs
open Go Go.Abs
noncomputable def progL (ts : List TkR) (k : Nat) : Nat → Nat → Option (List NdR × Nat)
  | 0, _ => none
  | f + 1, i => tkB ts i fun x => cond (Nat.beq x.k 5) (some ([], i)) (match nodeS ts k i with
    | some (q, j) => match progL ts k f j with
      | some (l, j') => some (q :: l, j')
      | none => none
    | none => none)
noncomputable def progS (ts : List TkR) (k : Nat) : Option (List NdR) := match nodeS ts k 0 with
  | some (d, j) => match progL ts k k j with
    | some (l, _) => some (d :: l)
    | none => none
  | none => none
theorem bsl33 (d : NdR) : bslV CC 24 1 [(0, d.v)] = some (.sl 6 [d.v] .lit) := by
  obtain ⟨s, p, I, O, V, E⟩ := d
  show bslV CC 24 1 [(0, .agg (ndC s p I O V (eqZ E)))] = some (.sl 6 [.agg (ndC s p I O V (eqZ E))] .lit)
  rw [ndC]
  cases I <;> cases O <;> cases V <;> kernel_rfl
theorem nd_ok (d : NdR) : [d.v].all (elemOk 6) = true := by
  obtain ⟨s, p, I, O, V, E⟩ := d
  cases I <;> cases O <;> cases V <;> rfl
theorem nd_noN : ∀ l : List NdR, noNL (l.map NdR.v) = true
  | [] => rfl
  | q :: l => by
    rw [List.map_cons, noNL_cons, nd_noN l]
    simp only [noN_agg, noNL_cons, noNL_nil, noN_sl, linN_dead, eq_noN, deZ_noN, noN_int, noN_str, cond_true]
theorem de_same : ∀ l : List DeR, sameL (l.map DeR.v) (l.map DeR.v) = true
  | [] => by simp [sameL]
  | a :: l => by rw [List.map_cons]; simp [sameL, AV.same, de_same l]
theorem deZ_same (l : List DeR) : AV.same (deZ l) (deZ l) = true := by
  cases l with
  | nil => simp [deZ, AV.same]
  | cons a l => show AV.same (.sl 6 ((a :: l).map DeR.v) .dead) (.sl 6 ((a :: l).map DeR.v) .dead) = true; simp only [AV.same, de_same]; simp
theorem nd_same : ∀ l : List NdR, sameL (l.map NdR.v) (l.map NdR.v) = true
  | [] => by simp [sameL]
  | q :: l => by rw [List.map_cons]; simp [sameL, AV.same, deZ_same, eq_same, nd_same l]
theorem se33 : ∃ e, sliceElem CC 24 = some e ∧ e = 46 := ⟨_, by kernel_rfl, rfl⟩
theorem inf61' : (CC.P.info? 46).map (fun i => (i.size, decide (0 < i.bytes ∧ i.bytes ≤ 65536))) = some (6, true) := by kernel_rfl
theorem inf61 : ∃ i, CC.P.info? 46 = some i ∧ i.size = 6 ∧ 0 < i.bytes ∧ i.bytes ≤ 65536 := by
  have h := inf61'
  cases hi : CC.P.info? 46 with
  | none => rw [hi] at h; cases h
  | some i =>
    rw [hi] at h
    simp only [Option.map_some, Option.some.injEq, Prod.mk.injEq, decide_eq_true_eq] at h
    exact ⟨i, rfl, h.1, h.2.1, h.2.2⟩
theorem zero61 : zeroT CC 46 = some (.agg [.str [], .int .i64 0, .nils, .nils, .nils, .nils]) := by kernel_rfl
theorem mut33 (f : Nat) : CC.mutT f 24 = false := by
  show ((24 : Nat) == 63 || (24 : Nat) == 65) = false
  simp
theorem app_nil33 (f : Nat) (d : NdR) (hp : Heap) (e : Nat) : appendAV CC f 24 .nils (.sl 6 [d.v] .lit) ⟨hp, e⟩ = some (.sl 6 [d.v] (.live (lenF hp) 0), ⟨hp ++ [.lin 0], e⟩) := by
  obtain ⟨i, h1, h2, h3, h4⟩ := inf61
  obtain ⟨e', s1, rfl⟩ := se33
  have hne : ¬ (i.size = 0 ∨ i.bytes = 0 ∨ (AV.agg [.str [], .int .i64 0, .nils, .nils, .nils, .nils]).cells.length ≠ i.size ∨ [d.v].all (elemOk i.size) = false ∨ 2 ^ 16 < i.bytes) := by
    rw [h2, nd_ok]; simp [AV.cells]; omega
  simp only [appendAV, s1, h1, zero61, elemsAV, if_true, h2, List.isEmpty, mut33, lenF_eq]
  rw [h2] at hne
  rw [if_neg hne]
  simp
theorem app_live33 (f : Nat) {xs : List AV} (d : NdR) {hp : Heap} {e id g : Nat} (hg : getF hp id = some (.lin g)) (hl : xs.length + 1 ≤ 2 ^ 24) :
    appendAV CC f 24 (.sl 6 xs (.live id g)) (.sl 6 [d.v] .lit) ⟨hp, e⟩ = some (.sl 6 (xs ++ [d.v]) (.live id (g + 1)), ⟨setF hp id (.lin (g + 1)), e⟩) := by
  obtain ⟨i, h1, h2, h3, h4⟩ := inf61
  obtain ⟨e', s1, rfl⟩ := se33
  rw [getF_eq] at hg
  have h5 : decide (xs.length + [d.v].length ≤ 2 ^ 24) = true := by simp; omega
  have hne : ¬ (i.size = 0 ∨ i.bytes = 0 ∨ (AV.agg [.str [], .int .i64 0, .nils, .nils, .nils, .nils]).cells.length ≠ i.size ∨ [d.v].all (elemOk i.size) = false ∨ 2 ^ 16 < i.bytes) := by
    rw [h2, nd_ok]; simp [AV.cells]; omega
  rw [h2] at hne
  simp only [appendAV, s1, h1, zero61, elemsAV, if_true, h2, h5, List.isEmpty, hg, setF_eq]
  rw [if_neg hne]
  simp
/-- memory while the nodes are read -/
noncomputable abbrev pgH (H : Heap) (n oo : Nat) (c : AObj) (acc : List NdR) (g : Nat) : Heap := setF (setF H n c) oo (.cells [.sl 6 (acc.map NdR.v) (.live (lenF H) g)]) ++ [.lin g]
theorem pg_n {H : Heap} {n oo : Nat} {c : AObj} {acc : List NdR} {g : Nat} (hn : n < lenF H) (hne : oo ≠ n) : getF (pgH H n oo c acc g) n = some c :=
  getF_old (by rw [getF_setne (Ne.symm hne)]; exact getF_so0 hn c) _
theorem pg_oo {H : Heap} {n oo : Nat} {c : AObj} {acc : List NdR} {g : Nat} (ho : oo < lenF H) : getF (pgH H n oo c acc g) oo = some (.cells [.sl 6 (acc.map NdR.v) (.live (lenF H) g)]) :=
  getF_old (getF_so0 (by rw [lenF_set]; exact ho) _) _
theorem pg_lin {H : Heap} {n oo : Nat} {c : AObj} {acc : List NdR} {g : Nat} : getF (pgH H n oo c acc g) (lenF H) = some (.lin g) := by
  have := getF_app0 (setF (setF H n c) oo (.cells [.sl 6 (acc.map NdR.v) (.live (lenF H) g)])) [AObj.lin g]
  rw [lenF_set, lenF_set] at this
  exact this
theorem pg_len {H : Heap} {n oo : Nat} {c : AObj} {acc : List NdR} {g : Nat} : lenF (pgH H n oo c acc g) = lenF H + 1 := by
  rw [lenF_ap, lenF_set, lenF_set]; rfl
theorem pg_gen {H : Heap} {n oo : Nat} {c c' Y Y' k k' : AObj} (hn : n < lenF H) (ho : oo < lenF H) (hne : oo ≠ n) :
    setF (setF (setF (setF (setF H n c) oo Y ++ [k]) n c') (lenF H) k') oo Y' = setF (setF H n c') oo Y' ++ [k'] := by
  simp only [lenF_eq, setF_eq] at *
  have hl : ((H.set n c).set oo Y).length = H.length := by simp
  rw [List.set_append_left _ _ (by rw [hl]; exact hn), List.set_append_right _ _ (by rw [List.length_set, hl]; exact Nat.le_refl _), List.set_append_left _ _ (by rw [List.length_set, hl]; exact ho)]
  rw [List.length_set, hl, Nat.sub_self]
  rw [List.set_comm _ _ hne, List.set_set, List.set_set]
  rfl
theorem pg_next {H : Heap} {n oo : Nat} {c c' : AObj} {acc acc' : List NdR} {g g' : Nat} (hn : n < lenF H) (ho : oo < lenF H) (hne : oo ≠ n) :
    setF (setF (setF (pgH H n oo c acc g) n c') (lenF H) (.lin g')) oo (.cells [.sl 6 (acc'.map NdR.v) (.live (lenF H) g')]) = pgH H n oo c' acc' g' := pg_gen hn ho hne
def PgE (H : Heap) (n oo : Nat) (c : AObj) (all : List NdR) (X : IRes) : Prop := ∃ r' g, X = some (.exit 0, r', [], ⟨pgH H n oo c all g, oo⟩)
section
variable {M : Memo} {ts : List TkR} {lin : Lin} {n : Nat}
theorem prog_loop (m : ParM M) (hlen : ts.length ≤ 90000) {H : Heap} {oo : Nat} (hn : n < lenF H) (ho : oo < lenF H) (hne : oo ≠ n) {k : Nat} (hk : k ≤ 90000) : ∀ (f : Nat) (acc : List NdR) (i : Nat) (l : List NdR) (j : Nat), progL ts k f i = some (l, j) → acc.length + f ≤ 100000 → ∀ (fu : Nat), f ≤ fu → ∀ (g : Nat) (r : RG),
    (r.a.a.a = .ptr n 0 ∧ r.a.a.b = .ptr oo 0) →
    PgE H n oo (curO (ts.map TkR.v) lin j) (acc ++ l) (loopN (q17_3 (orc CC M)) fu r [] ⟨pgH H n oo (curO (ts.map TkR.v) lin i) acc g, oo⟩) := by
  intro f
  induction f with
  | zero => intro acc i l j h; cases h
  | succ f ih =>
    intro acc i l j h hak fu hfu g r ⟨h0, h1⟩
    obtain ⟨fu', rfl⟩ : ∃ f, fu = f + 1 := ⟨fu - 1, by omega⟩
    simp only [progL] at h
    obtain ⟨x, hx, h⟩ := tkB_some h
    have gn := pg_n (n := n) (oo := oo) (c := curO (ts.map TkR.v) lin i) (acc := acc) (g := g) hn hne
    have goo := pg_oo (n := n) (oo := oo) (c := curO (ts.map TkR.v) lin i) (acc := acc) (g := g) ho
    have glin := pg_lin (H := H) (n := n) (oo := oo) (c := curO (ts.map TkR.v) lin i) (acc := acc) (g := g)
    have gl := pg_len (H := H) (n := n) (oo := oo) (c := curO (ts.map TkR.v) lin i) (acc := acc) (g := g)
    have gnx := fun c' acc' g' => pg_next (H := H) (n := n) (oo := oo) (c := curO (ts.map TkR.v) lin i) (acc := acc) (g := g) (c' := c') (acc' := acc') (g' := g') hn ho hne
    generalize hH : pgH H n oo (curO (ts.map TkR.v) lin i) acc g = Hc at gn goo glin gl gnx ⊢
    have P := peek_x (n := n) (lin := lin) m (getF_map hx) Hc gn
    have c5 : decide ((x.k : Int) = 5) = Nat.beq x.k 5 := cie x.k 5
    have hm1 : min oo (lenF Hc) = oo := Nat.min_eq_left (by omega)
    cases hk5 : Nat.beq x.k 5 with
    | true =>
      rw [hk5] at h c5
      simp only [cond_true, Option.some.injEq, Prod.mk.injEq] at h
      obtain ⟨rfl, rfl⟩ := h
      simp only [loopN, q17_3, q17_1, SIM, ST0, ST1, h0, P, tokV, fldV_a2, c5, hm1, Nat.reduceAdd, Nat.reduceLeDiff, TkR.v]
      rw [← hH]
      exact ⟨_, g, rfl⟩
    | false =>
      rw [hk5] at h c5
      simp only [cond_false] at h
      cases hq : nodeS ts k i with
      | none => rw [hq] at h; cases h
      | some qj =>
        obtain ⟨q, j1⟩ := qj
        rw [hq] at h
        simp only at h
        cases hl : progL ts k f j1 with
        | none => rw [hl] at h; cases h
        | some lj =>
          obtain ⟨l', j'⟩ := lj
          rw [hl] at h
          simp only [Option.some.injEq, Prod.mk.injEq] at h
          obtain ⟨rfl, rfl⟩ := h
          have E := node_run (lin := lin) (n := n) m hlen hk hq Hc gn
          have hoo1 : getF (setF Hc n (curO (ts.map TkR.v) lin j1)) oo = some (.cells [.sl 6 (acc.map NdR.v) (.live (lenF H) g)]) := by rw [getF_setne hne, goo]
          have hsm : AV.same (.sl 6 (acc.map NdR.v) (.live (lenF H) g)) (.sl 6 (acc.map NdR.v) (.live (lenF H) g)) = true := by simp [AV.same, nd_same]
          have glin1 : getF (setF Hc n (curO (ts.map TkR.v) lin j1)) (lenF H) = some (.lin g) := by rw [getF_setne (by omega), glin]
          have happ := fun e => app_live33 17 (xs := acc.map NdR.v) q (e := e) glin1 (by rw [List.length_map]; omega)
          have hm : acc.map NdR.v ++ [q.v] = (acc ++ [q]).map NdR.v := by simp
          rw [hm] at happ
          have hoo2 : getF (setF (setF Hc n (curO (ts.map TkR.v) lin j1)) (lenF H) (.lin (g + 1))) oo = some (.cells [.sl 6 (acc.map NdR.v) (.live (lenF H) g)]) := by rw [getF_setne (by omega), hoo1]
          have hst : stoC 1 0 oo (.sl 6 ((acc ++ [q]).map NdR.v) (.live (lenF H) (g + 1))) [.sl 6 ((acc ++ [q]).map NdR.v) (.live (lenF H) (g + 1))] [.sl 6 (acc.map NdR.v) (.live (lenF H) g)] ⟨setF (setF Hc n (curO (ts.map TkR.v) lin j1)) (lenF H) (.lin (g + 1)), oo⟩ = _ :=
            stoC_up (nd_noN _) (by rw [lenF_set, lenF_set, gl]; omega) (by omega)
          rw [gnx, Nat.min_self] at hst
          have key := ih (acc ++ [q]) j1 l' j' hl (by simp; omega) fu' (by omega) (g + 1)
          rw [List.append_assoc] at key
          simp only [loopN, q17_3, q17_1, q17_2, SIM, ST0, ST1, h0, h1, P, tokV, fldV_a2, c5, hm1, E, goo, hoo1, hoo2, hsm, bsl33, happ, hst, Nat.reduceAdd, Nat.reduceLeDiff, TkR.v]
          exact key _ ⟨by first | rfl | exact h0, by first | rfl | exact h1⟩
theorem progL_end {k : Nat} : ∀ {f i : Nat} {l : List NdR} {j : Nat}, progL ts k f i = some (l, j) → ∃ x, getF ts j = some x ∧ x.k = 5
  | 0, _, _, _, h => by cases h
  | f + 1, i, l, j, h => by
    simp only [progL] at h
    obtain ⟨x, hx, h⟩ := tkB_some h
    cases hw : Nat.beq x.k 5 with
    | true =>
      rw [hw] at h
      simp only [cond_true, Option.some.injEq, Prod.mk.injEq] at h
      obtain ⟨rfl, rfl⟩ := h
      exact ⟨x, hx, Nat.eq_of_beq_eq_true hw⟩
    | false =>
      rw [hw] at h
      simp only [cond_false] at h
      split at h
      · split at h
        · rename_i h2
          simp only [Option.some.injEq, Prod.mk.injEq] at h
          obtain ⟨rfl, rfl⟩ := h
          exact progL_end h2
        · cases h
      · cases h
theorem progS_some {k : Nat} {l : List NdR} (h : progS ts k = some l) : ∃ d j l' j', nodeS ts k 0 = some (d, j) ∧ progL ts k k j = some (l', j') ∧ l = d :: l' := by
  unfold progS at h
  split at h
  · rename_i d j hd
    split at h
    · rename_i l' j' hl
      simp only [Option.some.injEq] at h
      exact ⟨d, j, l', j', hd, hl, h.symm⟩
    · cases h
  · cases h
theorem prog_run (m : ParM M) (hlen : ts.length ≤ 90000) {k : Nat} {l : List NdR} (hk : k ≤ 90000) (h : progS ts k = some l) : ∃ j x, getF ts j = some x ∧ x.k = 5 ∧ ∀ (H : Heap) (oo : Nat), oo ≠ n → getF H n = some (curO (ts.map TkR.v) lin 0) → getF H oo = some (.cells [.nils]) →
    ∃ g, orc CC M 17 [.ptr n 0, .ptr oo 0] H = some (.ret Abs.undef (pgH H n oo (curO (ts.map TkR.v) lin j) l g) oo) := by
  obtain ⟨d, j1, l', j, hd, hl, rfl⟩ := progS_some h
  obtain ⟨x, hx, hx5⟩ := progL_end hl
  refine ⟨j, x, hx, hx5, fun H oo hne hn ho => ?_⟩
  have hlt : n < lenF H := by rw [lenF_eq]; exact getF_lt hn
  have hlo : oo < lenF H := by rw [lenF_eq]; exact getF_lt ho
  have E := node_run (lin := lin) (n := n) m hlen hk hd H hn
  have hoo1 : getF (setF H n (curO (ts.map TkR.v) lin j1)) oo = some (.cells [.nils]) := by rw [getF_setne hne, ho]
  have happ := fun e => app_nil33 17 d (setF H n (curO (ts.map TkR.v) lin j1)) e
  simp only [lenF_set] at happ
  have hoo2 : getF (setF H n (curO (ts.map TkR.v) lin j1) ++ [.lin 0]) oo = some (.cells [.nils]) := getF_old hoo1 _
  have hst : stoC 1 0 oo (.sl 6 [d.v] (.live (lenF H) 0)) [.sl 6 [d.v] (.live (lenF H) 0)] [.nils] ⟨setF H n (curO (ts.map TkR.v) lin j1) ++ [.lin 0], lenF H⟩ = _ :=
    stoC_up (nd_noN [d]) (by rw [lenF_ap, lenF_set, show lenF [AObj.lin 0] = 1 from rfl]; omega) (by omega)
  rw [setF_old hoo1, Nat.min_eq_right (by omega : oo ≤ lenF H)] at hst
  obtain ⟨r0, hr0, hpre⟩ : ∃ r, (r.a.a.a = .ptr n 0 ∧ r.a.a.b = .ptr oo 0) ∧ z17.sh (orc CC M) (envOf [.ptr n 0, .ptr oo 0] 0 env0) [] ⟨H, lenF H⟩ = blkK 0 (loopN (q17_3 (orc CC M)) 100000 r [] ⟨pgH H n oo (curO (ts.map TkR.v) lin j1) [d] 0, oo⟩) := by
    have e0 : (envOf [AV.ptr n 0, .ptr oo 0] 0 env0).a.a.a = .ptr n 0 := rfl
    have e1 : (envOf [AV.ptr n 0, .ptr oo 0] 0 env0).a.a.b = .ptr oo 0 := rfl
    generalize envOf [AV.ptr n 0, .ptr oo 0] 0 env0 = R at e0 e1
    simp only [z17, q17_0, SIM, ST0, e0, e1, E, ho, hoo1, hoo2, same_nils, bsl33, happ, hst, Nat.min_self, Nat.reduceAdd, Nat.reduceLeDiff]
    exact ⟨_, ⟨by first | rfl | exact e0, by first | rfl | exact e1⟩, rfl⟩
  obtain ⟨r', g, h1⟩ := prog_loop (lin := lin) (n := n) m hlen (H := H) (oo := oo) hlt hlo hne hk k [d] j1 l' j hl (by simp; omega) 100000 (by omega) 0 r0 hr0
  refine ⟨g, begin_ (z := z17) (m _ _ rfl) (by kernel_rfl) rfl ?_⟩
  rw [hpre, h1]
  have hgc := fun hp => gc_up (keep := CC.keep 17) (base := lenF H) (e := oo) (v := Abs.undef) (hp := hp) (by omega)
  simp only [z17, SIM, ST0, hgc, List.cons_append, List.nil_append, Nat.reduceAdd, Nat.reduceLeDiff]
end
end Go.Proofs
set_option maxRecDepth 100000
namespace Go.Proofs
open Go Go.Abs
theorem be_69 (l : List AV) (q : Lin) : buildAV CC 54 [(0, .sl 4 l q)] = some (.agg [.sl 4 l q, .int .i64 0]) := by kernel_rfl
theorem be_71 (l : List AV) (q : Lin) : buildAV CC 56 [(0, .agg [.sl 4 l q, .int .i64 0])] = some (.agg [.sl 4 l q, .int .i64 0]) := by kernel_rfl
theorem tk_low (ts : List TkR) (L : Nat) : AV.low L (.agg [.sl 4 (ts.map TkR.v) .dead, .int .i64 0]) = true := by
  simp [AV.low, lowL, lowL_nn (noNL_map ts), Lin.low]
theorem bx_cur (ts : List TkR) (L : Nat) : bxV (.agg [.sl 4 (ts.map TkR.v) .dead, .int .i64 0]) L = some (curO (ts.map TkR.v) .dead 0, (.ptr · 0)) := by
  have h2 : (AV.cells (.agg [.sl 4 (ts.map TkR.v) .dead, .int .i64 0])).all AV.one = true := rfl
  unfold bxV
  rw [if_pos ⟨h2, tk_low ts L⟩]
  rfl
theorem bx_fn (oo L : Nat) (h : oo < L) : bxV (.func (.func 17) [] [.ptr oo 0]) L = some (.cells [.func (.func 17) [] [.ptr oo 0]], (.ptr · 0)) := by
  have h1 : (AV.func (.func 17) [] [.ptr oo 0]).cells.all AV.one = true := rfl
  have h2 : AV.low L (.func (.func 17) [] [.ptr oo 0]) = true := by simp [AV.low, lowL, h]
  unfold bxV
  rw [if_pos ⟨h1, h2⟩]
  rfl
theorem call28 (a b : AV) (s : St) : callAV CC 17 [a, b] s = some (.call 17 [a, b]) := by kernel_rfl
theorem call46 (a b c : AV) (s : St) : callAV CC 26 [a, b, c] s = some (.call 26 [a, b, c]) := by kernel_rfl
section
variable {M : Memo} {ts : List TkR} {n : Nat}
theorem run46 (m : ParM M) (hlen : ts.length ≤ 90000) {k : Nat} {l : List NdR} (hk : k ≤ 90000) (h : progS ts k = some l) : ∃ j, ∀ (H : Heap) (oo fo dob pb : Nat), oo ≠ n → getF H n = some (curO (ts.map TkR.v) .dead 0) → getF H oo = some (.cells [.nils]) → getF H dob = some (.cells [.func (.func 17) [] [.ptr oo 0]]) → getF H pb = some (.cells [.ptr n 0]) → pb ≠ n → pb ≠ oo → 
    ∃ g, orc CC M 26 [.ptr fo 0, .ptr dob 0, .ptr pb 0] H = some (.ret Abs.undef (pgH H n oo (curO (ts.map TkR.v) .dead j) l g) oo) := by
  obtain ⟨j, x, hx, hx5, hP⟩ := prog_run (lin := .dead) (n := n) m hlen hk h
  refine ⟨j, fun H oo fo dob pb hne hn ho hd hp hpn hpo => ?_⟩
  obtain ⟨g, hP⟩ := hP H oo hne hn ho
  refine ⟨g, begin_ (z := z26) (m _ _ rfl) (by kernel_rfl) rfl ?_⟩
  have e0 : (envOf [AV.ptr fo 0, .ptr dob 0, .ptr pb 0] 0 env0).a.a.a = .ptr fo 0 := rfl
  have e1 : (envOf [AV.ptr fo 0, .ptr dob 0, .ptr pb 0] 0 env0).a.a.b = .ptr dob 0 := rfl
  have e2 : (envOf [AV.ptr fo 0, .ptr dob 0, .ptr pb 0] 0 env0).a.a.c = .ptr pb 0 := rfl
  generalize envOf [AV.ptr fo 0, .ptr dob 0, .ptr pb 0] 0 env0 = R at e0 e1 e2
  have hlt : n < lenF H := by rw [lenF_eq]; exact getF_lt hn
  have hlo : oo < lenF H := by rw [lenF_eq]; exact getF_lt ho
  have hm : min (lenF H) oo = oo := Nat.min_eq_right (by omega)
  have gn := pg_n (n := n) (oo := oo) (c := curO (ts.map TkR.v) .dead j) (acc := l) (g := g) hlt hne
  have gp : getF (pgH H n oo (curO (ts.map TkR.v) .dead j) l g) pb = some (.cells [.ptr n 0]) := getF_old (by rw [getF_setne hpo, getF_setne hpn, hp]) _
  have gl := pg_len (H := H) (n := n) (oo := oo) (c := curO (ts.map TkR.v) .dead j) (acc := l) (g := g)
  generalize pgH H n oo (curO (ts.map TkR.v) .dead j) l g = Hc at *
  have P := peek_x (n := n) (lin := .dead) m (getF_map hx) Hc gn
  have c5 : decide ((x.k : Int) = 5) = true := by rw [hx5]; rfl
  have hm2 : min oo (lenF Hc) = oo := Nat.min_eq_left (by omega)
  have hgc := fun hp => gc_up (keep := CC.keep 26) (base := lenF H) (e := oo) (v := Abs.undef) (hp := hp) (by omega)
  obtain ⟨r', hpre⟩ : ∃ r', z26.sh (orc CC M) R [] ⟨H, lenF H⟩ = some (.normal, r', [(27, [.ptr fo 0])], ⟨Hc, oo⟩) := by
    simp only [z26, q26_0, q26_1, q26_2, SIM, ST0, e0, e1, e2, hd, hp, call28, hP, hm, gp, P, tokV, fldV_a2, c5, hm2, Nat.reduceAdd, Nat.reduceLeDiff, TkR.v]
    exact ⟨_, rfl⟩
  rw [hpre]
  show finR CC 26 (lenF H) [] r' [(27, [.ptr fo 0])] ⟨Hc, oo⟩ = _
  have hct : (CC.catcher 27).isSome = true := by kernel_rfl
  unfold finR
  simp only [List.all_cons, List.all_nil, hct, Bool.and_self, List.length_cons, List.length_nil]
  rw [show Nat.ble (0 + 1) 1 = true from rfl]
  simp only [Bool.and_self, cond_true]
  exact congrArg some (hgc Hc)
end
end Go.Proofs
set_option maxRecDepth 100000
namespace Go.Proofs
open Go Go.Abs
abbrev cz0 : AObj := .cells [.int .i64 0, .int .i64 0]
theorem lenF_cons' {α : Type} (a : α) (l : List α) : lenF (a :: l) = lenF l + 1 := by simp [lenF_eq]
theorem lenF_nil' {α : Type} : lenF ([] : List α) = 0 := rfl
theorem stoC_ptr {a r b : Nat} {cs : List AV} {hp : Heap} (h1 : a < lenF hp) (h2 : a ≤ r) (h4 : 1 ≤ lenF cs) :
    stoC 1 0 r (.ptr a 0) [.ptr a 0] cs ⟨hp, b⟩ = some ⟨setF hp r (.cells (putF cs 0 [.ptr a 0])), b⟩ := by
  have e1 : lowF (lenF hp) (.ptr a 0) = true := by rw [lowF_eq]; simp [AV.low, h1]
  have e2 : lowF (r + 1) (.ptr a 0) = true := by rw [lowF_eq]; simp [AV.low]; omega
  have e3 : Nat.ble (Nat.add 0 1) (lenF cs) = true := by rw [nble]; simpa using h4
  have e5 : Nat.beq (lenF [AV.ptr a 0]) 1 = true := rfl
  have e6 : List.all [AV.ptr a 0] AV.one = true := rfl
  simp only [stoC, e1, e3, e5, e6, Bool.and_self, cond_true, escF, e2]
section
variable {M : Memo} {ts : List TkR}
theorem run27 (m : ParM M) (hlen : ts.length ≤ 90000) {k : Nat} {l : List NdR} (hk : k ≤ 90000) (h : progS ts k = some l) {s : List Nat}
    (L : ∀ H, orc CC M 25 [.str s] H = some (.ret (.tuple [.sl 4 (ts.map TkR.v) .dead, .agg [.int .i64 0, .int .i64 0]]) H (lenF H))) (H : Heap) :
    ∃ j g, orc CC M 16 [.str s, .func (.func 17) [] [.ptr (lenF H + 1) 0]] (H ++ [cz0, .cells [.nils]]) =
      some (.ret (.agg [.int .i64 0, .int .i64 0]) (H ++ [cz0, .cells [.sl 6 (l.map NdR.v) (.live (lenF H + 7) g)], .cells [.func (.func 17) [] [.ptr (lenF H + 1) 0]], cz0, cz0, curO (ts.map TkR.v) .dead j, .cells [.ptr (lenF H + 5) 0], .lin g]) (lenF H + 1)) := by
  obtain ⟨j, hR⟩ := run46 (n := lenF H + 5) m hlen hk h
  have hl2 : lenF (H ++ [cz0, .cells [.nils]]) = lenF H + 2 := by rw [lenF_eq, lenF_eq, List.length_append]; rfl
  have hl2' : (H ++ [cz0, .cells [.nils]]).length = lenF H + 2 := by rw [← lenF_eq, hl2]
  obtain ⟨g, hR⟩ := hR (H ++ [cz0, .cells [.nils], .cells [.func (.func 17) [] [.ptr (lenF H + 1) 0]], cz0, cz0, curO (ts.map TkR.v) .dead 0, .cells [.ptr (lenF H + 5) 0]]) (lenF H + 1) (lenF H + 4) (lenF H + 2) (lenF H + 6) (by omega) (by rw [getF_app]; rfl) (by rw [getF_app]; rfl) (by rw [getF_app]; rfl) (by rw [getF_app]; rfl) (by omega) (by omega)
  have hl7 : lenF (H ++ [cz0, .cells [.nils], .cells [.func (.func 17) [] [.ptr (lenF H + 1) 0]], cz0, cz0, curO (ts.map TkR.v) .dead 0, .cells [.ptr (lenF H + 5) 0]]) = lenF H + 7 := by rw [lenF_eq, lenF_eq, List.length_append]; rfl
  have hpg : pgH (H ++ [cz0, .cells [.nils], .cells [.func (.func 17) [] [.ptr (lenF H + 1) 0]], cz0, cz0, curO (ts.map TkR.v) .dead 0, .cells [.ptr (lenF H + 5) 0]]) (lenF H + 5) (lenF H + 1) (curO (ts.map TkR.v) .dead j) l g =
      H ++ [cz0, .cells [.sl 6 (l.map NdR.v) (.live (lenF H + 7) g)], .cells [.func (.func 17) [] [.ptr (lenF H + 1) 0]], cz0, cz0, curO (ts.map TkR.v) .dead j, .cells [.ptr (lenF H + 5) 0], .lin g] := by
    unfold pgH
    rw [hl7, setF_app, setF_app, List.append_assoc]
    rfl
  rw [hpg] at hR
  refine ⟨j, g, begin_ (z := z16) (m _ _ rfl) (by kernel_rfl) rfl ?_⟩
  have e0 : (envOf [AV.str s, .func (.func 17) [] [.ptr (lenF H + 1) 0]] 0 env0).a.a.a = .str s := rfl
  have e1 : (envOf [AV.str s, .func (.func 17) [] [.ptr (lenF H + 1) 0]] 0 env0).a.a.b = .func (.func 17) [] [.ptr (lenF H + 1) 0] := rfl
  generalize envOf [AV.str s, .func (.func 17) [] [.ptr (lenF H + 1) 0]] 0 env0 = R at e0 e1
  have hbf := bx_fn (lenF H + 1) (lenF H + 2) (by omega)
  have hbc := bx_cur ts
  have hsp := fun G b => stoC_ptr (a := lenF H + 5) (r := lenF H + 6) (b := b) (cs := [.nilp]) (hp := H ++ [cz0, .cells [.nils], .cells [.func (.func 17) [] [.ptr (lenF H + 1) 0]], cz0, cz0, curO (ts.map TkR.v) .dead 0, .cells [.nilp]] ++ G) (by rw [lenF_ap, lenF_ap]; simp only [lenF_cons', lenF_nil']; omega) (by omega) (by decide)
  have hsp0 := fun b => hsp [] b
  simp only [List.append_nil] at hsp0
  have hm0 : min (lenF H + 2) (lenF H + 4) = lenF H + 2 := Nat.min_eq_left (by omega)
  have hgc := fun hp => gc_up (keep := CC.keep 16) (base := lenF H + 2) (e := lenF H + 1) (v := .agg [.int .i64 0, .int .i64 0]) (hp := hp) (by omega)
  have hm : min (lenF H + 2) (lenF H + 1) = lenF H + 1 := Nat.min_eq_right (by omega)
  have hs6 : ∀ (a b c d e f g v : AObj), setF [a, b, c, d, e, f, g] 6 v = [a, b, c, d, e, f, v] := fun _ _ _ _ _ _ _ _ => rfl
  rw [hl2]
  simp only [z16, q16_0, q16_1, q16_2, q16_4, q16_5, q16_6, SIM, ST0, ST1, e0, e1, hl2, hl2', hbf, L, be_69, be_71, hbc, hsp0, call46, hR, hm, hm0, hs6, EXS, setF_cs, getF_cs, hgc, List.append_assoc, List.cons_append, List.nil_append, Nat.reduceAdd, Nat.reduceLeDiff]
/-- the whole reader: a text's nodes -/
theorem run14 (m : ParM M) (hM : M 8 = fun _ => none) (hlen : ts.length ≤ 90000) {k : Nat} {l : List NdR} (hk : k ≤ 90000) (h : progS ts k = some l) {s : List Nat}
    (L : ∀ H, orc CC M 25 [.str s] H = some (.ret (.tuple [.sl 4 (ts.map TkR.v) .dead, .agg [.int .i64 0, .int .i64 0]]) H (lenF H))) (H : Heap) :
    orc CC M 8 [.str s] H = some (.ret (.tuple [.sl 6 (l.map NdR.v) .dead, .agg [.int .i64 0, .int .i64 0]]) H (lenF H)) := by
  obtain ⟨j, g, hR⟩ := run27 m hlen hk h L H
  refine begin_ (z := z8) (by rw [hM]) (by kernel_rfl) rfl ?_
  have e0 : (envOf [AV.str s] 0 env0).a.a.a = .str s := rfl
  generalize envOf [AV.str s] 0 env0 = R at e0
  have hm : min (lenF H) (lenF H + 1) = lenF H := Nat.min_eq_left (by omega)
  have hgc := fun hp => gc_live (sz := 6) (l := l.map NdR.v) (fs := [.int .i64 0, .int .i64 0]) (id := lenF H + 7) (g := g) (base := lenF H) (hp := hp) (nd_noN l) rfl (by omega)
  have hk14 : CC.keep 8 = false := by kernel_rfl
  have g8 : ∀ (a b c d e f g h i : AObj), getF [a, b, c, d, e, f, g, h, i] 8 = some i := fun _ _ _ _ _ _ _ _ _ => rfl
  have s8 : ∀ (a b c d e f g h i v : AObj), setF [a, b, c, d, e, f, g, h, i] 8 v = [a, b, c, d, e, f, g, h, v] := fun _ _ _ _ _ _ _ _ _ _ => rfl
  simp only [z8, q8_0, q8_1, q8_2, q8_3, q8_5, SIM, ST0, ST1, e0, hR, hm, hk14, hgc, g8, s8, EXS, setF_cs, getF_cs, Nat.reduceAdd, Nat.reduceLeDiff]
end
end Go.Proofs
set_option maxRecDepth 1000000
namespace Go.Proofs
open Go Go.Abs
def wordsS : List (List Nat) := [[110,111,100,101],[114,101,116,117,114,110,115],[118,97,114],[108,101,116],[116,101,108],[105,110,116],[98,111,111,108],[102,117,116,117,114,101],[119,104,101,110],[110,111,116],[97,110,100],[111,114],[120,111,114],[105,102],[116,104,101,110],[101,108,115,101],[112,114,101],[102,98,121],[109,101,114,103,101],[97,115,121,110,99],[97,119,97,105,116],[97,102,116,101,114],[116,114,117,101],[102,97,108,115,101],[109,111,100]]
def signsS : List (List Nat) := [[60,62],[60,61],[62,61],[45,62],[40],[41],[44],[59],[58],[61],[60],[62],[43],[45],[42],[47]]
theorem lx1 : LexM (memoL memo1) (wordsS.map .str) (signsS.map .str) := { m72 := fun _ => rfl, m73 := fun _ => rfl, m104 := fun _ => rfl, m105 := fun _ => rfl, m106 := fun _ => rfl, m107 := fun _ => rfl, m108 := fun _ => rfl, m109 := fun _ => rfl, m110 := fun _ => rfl, m140 := fun _ => rfl, m141 := fun _ => rfl, m142 := fun _ => rfl, m143 := fun _ => rfl, m144 := fun _ => rfl, w := rfl, wl := by decide, s := rfl, sl := by decide }
theorem pm1 : ParM (memoL memo1) := parM_of (by decide)
/-! tokens off the rest of a text -/
def blV : List Nat → Option Nat
  | [] => some 0
  | b :: r => cond (isBl b) (match blV r with
    | some n => some (n + 1)
    | none => none) (cond (isPre [45, 45] (b :: r)) none (some 0))
theorem blV_ok : ∀ (t : List Nat) (n : Nat), blV t = some n → ∀ k, t.length ≤ k → blS k t = n
  | [], n, h, k, hk => by
    simp only [blV, Option.some.injEq] at h
    subst h
    cases k <;> rfl
  | b :: r, n, h, k, hk => by
    obtain ⟨k, rfl⟩ : ∃ q, k = q + 1 := ⟨k - 1, by simp at hk; omega⟩
    simp only [blV] at h
    simp only [blS]
    cases hb : isBl b with
    | true =>
      rw [hb] at h
      simp only [cond_true] at h ⊢
      cases hr : blV r with
      | none => rw [hr] at h; cases h
      | some m =>
        rw [hr] at h
        simp only [Option.some.injEq] at h
        rw [blV_ok r m hr k (by simp at hk; omega)]
        omega
    | false =>
      rw [hb] at h
      simp only [cond_false] at h ⊢
      cases hp : isPre [45, 45] (b :: r) with
      | true => rw [hp] at h; cases h
      | false =>
        rw [hp] at h
        simp only [cond_false, Option.some.injEq] at h ⊢
        exact h
def nextU (ws sg : List (List Nat)) (j : Nat) : List Nat → TkR
  | [] => ⟨5, j, [], 0, 0, j⟩
  | b :: r => cond (isL b) (nmT ws j ((b :: r).takeWhile isLD)) (cond (isD b) (nbT j ((b :: r).takeWhile isD)) (sgT j (fstW (b :: r) sg)))
theorem nextU_eq (ws sg : List (List Nat)) (s : List Nat) (j : Nat) : nextT ws sg s j = nextU ws sg j (s.drop j) := by
  unfold nextT nextU
  cases s.drop j <;> rfl
def lexV (ws sg : List (List Nat)) : Nat → List Nat → Nat → Option (List TkR)
  | 0, _, _ => none
  | k + 1, t, j => match blV t with
    | none => none
    | some n => match blV (t.drop n) with
      | none => none
      | some m => cond (Nat.beq m 0) (match nextU ws sg (j + n) (t.drop n) with
        | x => cond (Nat.beq x.err 0) (cond (Nat.beq x.k 5) (some [x]) (cond (Nat.ble j x.pos) (match lexV ws sg k (t.drop (x.pos - j)) x.pos with
          | some l => some (x :: l)
          | none => none) none)) none) none
theorem lexV_ok {ws sg : List (List Nat)} {s : List Nat} : ∀ (k j : Nat) (l : List TkR), lexV ws sg k (s.drop j) j = some l → allT ws sg s k j = some (.ok l)
  | 0, j, l, h => by cases h
  | k + 1, j, l, h => by
    simp only [lexV] at h
    cases h1 : blV (s.drop j) with
    | none => rw [h1] at h; cases h
    | some n =>
      rw [h1] at h
      simp only at h
      cases h2 : blV ((s.drop j).drop n) with
      | none => rw [h2] at h; cases h
      | some m =>
        rw [h2] at h
        simp only at h
        obtain ⟨hm, h3⟩ := cond_some h
        clear h
        have hm0 := Nat.eq_of_beq_eq_true hm
        rw [hm0] at h2
        obtain ⟨he, h⟩ := cond_some h3
        clear h3
        have e1 : blJ s j = j + n := by
          unfold blJ
          rw [blV_ok _ _ h1 _ (by rw [List.length_drop]; exact Nat.le_refl _)]
        have e2 : blJ s (j + n) = j + n := by
          unfold blJ
          rw [List.drop_drop] at h2
          rw [blV_ok _ _ h2 _ (by rw [List.length_drop]; exact Nat.le_refl _)]
          rfl
        rw [List.drop_drop] at h he
        simp only [allT, e1, e2, nextU_eq]
        rw [he]
        simp only [cond_true]
        cases h5 : Nat.beq (nextU ws sg (j + n) (s.drop (j + n))).k 5 with
        | true =>
          rw [h5] at h
          simp only [cond_true, Option.some.injEq] at h ⊢
          rw [h]
        | false =>
          rw [h5] at h
          simp only [cond_false] at h ⊢
          obtain ⟨hp, h⟩ := cond_some h
          rw [nble, decide_eq_true_eq] at hp
          generalize nextU ws sg (j + n) (s.drop (j + n)) = x at h hp ⊢
          cases h6 : lexV ws sg k ((s.drop j).drop (x.pos - j)) x.pos with
          | none => rw [h6] at h; cases h
          | some l' =>
            rw [h6] at h
            simp only [Option.some.injEq] at h
            rw [List.drop_drop, show j + (x.pos - j) = x.pos by omega] at h6
            rw [lexV_ok k x.pos l' h6]
            simp only [h]
/-- a text's nodes -/
noncomputable def parseS (s : List Nat) : Option (List NdR) := match lexV wordsS signsS 4100 s 0 with
  | some ts => cond (Nat.ble (lenF ts) 90000) (progS ts 500) none
  | none => none
noncomputable def okS (s : List Nat) : Bool := Nat.ble (lenF s) 4000 && s.all fun b => Nat.ble b 255
abbrev pV (l : List NdR) : AV := .tuple [.sl 6 (l.map NdR.v) .dead, .agg [.int .i64 0, .int .i64 0]]
theorem parse_fact {s : List Nat} {l : List NdR} (hs : okS s = true) (h : parseS s = some l) (H : Heap) : orc CC (memoL memo1) 8 [.str s] H = some (.ret (pV l) H (lenF H)) := by
  unfold okS at hs
  rw [Bool.and_eq_true, nble, decide_eq_true_eq, List.all_eq_true] at hs
  unfold parseS at h
  split at h
  · rename_i ts hl
    obtain ⟨h1, h2⟩ := cond_some h
    rw [nble, decide_eq_true_eq, lenF_eq] at h1
    rw [lenF_eq] at hs
    refine run14 pm1 (by funext a; rfl) h1 (k := 500) (by omega) h2 (fun H => ?_) H
    have := lex_ok lx1 (s := s) rfl hs.1 (fun b hb => by have := hs.2 b hb; rw [nble, decide_eq_true_eq] at this; omega) (k := 4100) (by omega) (lexV_ok 4100 0 ts hl) H
    simpa only [allV, List.nil_append] using this
  · cases h
theorem pV_low (l : List NdR) : (pV l).low 0 = true := by
  have := lowL_nn (nd_noN l) 0
  simp [AV.low, lowL, this, Lin.low]
/-- what is read of a text, as known -/
theorem memo_parse {L : List (FuncId × List AV × AV)} (hL : MemoOk CC (memoL L)) {s : List Nat} {l : List NdR} (hs : okS s = true) (h : parseS s = some l) : MemoOk CC (memoL ((8, [.str s], pV l) :: L)) :=
  memo_cons cc_goodF cc_scal hL memo1_ok rfl (pV_low l) (parse_fact hs h [])
end Go.Proofs
