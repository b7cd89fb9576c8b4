/- places, equations, delays and a step, for any memory. Part of the proof of girandolelaw11.SoloStands. -/
import Derived.Test.YtglacbfdbfhmfaaGreatDoorPar
set_option linter.unusedVariables false
set_option linter.unusedSimpArgs false
set_option maxRecDepth 100000
namespace Go.Proofs
open Go Go.Abs

/-- a bank: its unit, its places -/
abbrev bkV (u N n : Nat) : AV := .agg [.ptr u 0, .rsl N 0 n n 1]
abbrev atV (c : Bool) (k : Int) (v : Nat) : AV := .agg [.bool c, .int .i64 k, .int .i64 (v : Int)]

theorem bx_bk {u N n L : Nat} (hu : u < L) (hN : N < L) : bxV (bkV u N n) L = some (.cells [.ptr u 0, .rsl N 0 n n 1], (.ptr · 0)) := by
  have h1 : (bkV u N n).cells.all AV.one = true := rfl
  have h2 : AV.low L (bkV u N n) = true := by simp [bkV, AV.low, lowL, hu, hN]
  unfold bxV
  rw [if_pos ⟨h1, h2⟩]
  rfl
theorem bx_at (c : Bool) (k : Int) (v L : Nat) : bxV (atV c k v) L = some (.cells [.bool c, .int .i64 k, .int .i64 (v : Int)], (.ptr · 0)) := rfl
theorem ias_r {N n v : Nat} (h : v < n) : iasV 1 (.rsl N 0 n n 1) (.int .i64 (v : Int)) = some (.ptr N v) := by
  simp [iasV, asNat, h]

theorem get_c {M : Memo} (hM : ∀ a, M 36 a = none) {H : Heap} {u N n : Nat} (hu : u < H.length) (hN : N < H.length) (k : Int) (v : Nat) :
    orc CC M 36 [bkV u N n, atV true k v] H = some (.ret (.int .i64 k) H (lenF H)) := by
  refine begin_ (z := z36) (hM _) (by kernel_rfl) rfl ?_
  have e0 : (envOf [bkV u N n, atV true k v] 0 env0).a.a.a = bkV u N n := rfl
  have e1 : (envOf [bkV u N n, atV true k v] 0 env0).a.a.b = atV true k v := rfl
  generalize envOf [bkV u N n, atV true k v] 0 env0 = R at e0 e1
  have hb := bx_bk (n := n) hu hN
  have hb2 := fun L => bx_at true k v L
  simp only [z36, q36_0, q36_1, q36_2, q36_3, SIM, ST0, e0, e1, hb, hb2, Nat.reduceAdd, Nat.reduceLeDiff]

theorem get_v {M : Memo} (hM : ∀ a, M 36 a = none) {H : Heap} {u N n : Nat} {cs : List AV} (hu : u < H.length) (hN : getF H N = some (.cells cs)) {v : Nat} {x : Int} (k : Int) (hv : v < n) (hx : getF cs v = some (.int .i64 x)) :
    orc CC M 36 [bkV u N n, atV false k v] H = some (.ret (.int .i64 x) H (lenF H)) := by
  refine begin_ (z := z36) (hM _) (by kernel_rfl) rfl ?_
  have e0 : (envOf [bkV u N n, atV false k v] 0 env0).a.a.a = bkV u N n := rfl
  have e1 : (envOf [bkV u N n, atV false k v] 0 env0).a.a.b = atV false k v := rfl
  generalize envOf [bkV u N n, atV false k v] 0 env0 = R at e0 e1
  have hb := bx_bk (n := n) hu (getF_lt hN)
  have hb2 := fun L => bx_at false k v L
  have hi := ias_r (N := N) hv
  simp only [z36, q36_0, q36_1, q36_2, q36_3, SIM, ST0, e0, e1, hb, hb2, hi, getF_old hN, hx, Nat.reduceAdd, Nat.reduceLeDiff]

/-- guards -/
abbrev gdV (g : Nat × Bool) : AV := .agg [.int .i64 (g.1 : Int), .bool g.2]
/-- a list, as the program holds it -/
structure LstV (t sz : Nat) (V : AV) (l : List AV) : Prop where
  len : lenV CC t V = some (.int .i64 (l.length : Int))
  at_ : ∀ i v, getF l i = some v → iasV sz V (.int .i64 (i : Int)) = some (.iptr v.cells)

noncomputable def numAt (cs : List AV) (v : Nat) : Int := match getF cs v with
  | some (.int _ n) => n
  | _ => 0
/-- are guards as they must be? -/
noncomputable def onS (cs : List AV) : List (Nat × Bool) → Bool
  | [] => true
  | g :: r => cond (decide (numAt cs g.1 = 0) != g.2) false (onS cs r)

/-- a loop that only lays things behind what was there -/
def EndL (c : AExit) (P : RG → Prop) (H : Heap) (e : Nat) (X : IRes) : Prop := ∃ r' L, X = some (c, r', [], ⟨H ++ L, e⟩) ∧ P r'
theorem EndL.up {c : AExit} {P : RG → Prop} {H K : Heap} {e : Nat} {X : IRes} (h : EndL c P (H ++ K) e X) : EndL c P H e X := by
  obtain ⟨r', L, h1, h2⟩ := h
  exact ⟨r', K ++ L, by rw [← List.append_assoc]; exact h1, h2⟩
theorem EndL.now {c : AExit} {P : RG → Prop} {H : Heap} {e : Nat} {r : RG} (h : P r) : EndL c P H e (some (c, r, [], ⟨H, e⟩)) := ⟨r, [], by rw [List.append_nil], h⟩
theorem EndL.with {c : AExit} {P : RG → Prop} {H K : Heap} {e : Nat} {r : RG} (h : P r) : EndL c P H e (some (c, r, [], ⟨H ++ K, e⟩)) := ⟨r, K, rfl, h⟩

theorem on_loop {M : Memo} {N n pb u : Nat} {cs : List AV} {gs : List (Nat × Bool)} {V : AV} (hV : LstV 140 2 V (gs.map gdV)) (hl : gs.length < 1000) (hcs : ∀ g ∈ gs, ∃ x, getF cs g.1 = some (.int .i64 x) ∧ g.1 < n) :
    ∀ (d i : Nat), d + i = gs.length → ∀ (fu : Nat), d < fu → ∀ (H : Heap) (e : Nat), getF H pb = some (.cells [.ptr u 0, .rsl N 0 n n 1]) → getF H N = some (.cells cs) → ∀ r : RG,
    (r.a.a.c = .ptr pb 0 ∧ r.a.a.h = V ∧ r.a.b.a = .int .i64 (gs.length : Int) ∧ r.a.b.b = .int .i64 (i : Int)) →
    EndL (cond (onS cs (gs.drop i)) (.exit 0) .ret) (fun r' => onS cs (gs.drop i) = false → r'.a.a.e = .bool false) H e (loopN (q61_7 (orc CC M)) fu r [] ⟨H, e⟩) := by
  intro d
  induction d with
  | zero =>
    intro i hi fu hfu H e hb hN r ⟨h2, h7, h8, h9⟩
    obtain ⟨fu', rfl⟩ : ∃ f, fu = f + 1 := ⟨fu - 1, by omega⟩
    have : i = gs.length := by omega
    subst this
    have hc : decide ((gs.length : Int) < (gs.length : Int)) = false := by simp
    rw [List.drop_length]
    simp only [loopN, q61_7, q61_2, SIM, ST0, h8, h9, hc, onS]
    exact .now (fun h => by cases h)
  | succ d ih =>
    intro i hi fu hfu H e hb hN r ⟨h2, h7, h8, h9⟩
    obtain ⟨fu', rfl⟩ : ∃ f, fu = f + 1 := ⟨fu - 1, by omega⟩
    have hlt : i < gs.length := by omega
    have hc : decide ((i : Int) < (gs.length : Int)) = true := by simp; omega
    have hd : gs.drop i = gs[i] :: gs.drop (i + 1) := List.drop_eq_getElem_cons hlt
    generalize hg : gs[i] = g at hd
    obtain ⟨x, hx, hgn⟩ := hcs g (by rw [← hg]; exact List.getElem_mem hlt)
    have hat := hV.at_ i (gdV g) (by rw [getF_eq, List.getElem?_map, List.getElem?_eq_getElem hlt, hg]; rfl)
    have hir := ias_r (N := N) hgn
    have hnum : numAt cs g.1 = x := by unfold numAt; rw [hx]
    have ha : addF (i : Int) 1 = ((i + 1 : Nat) : Int) := addF_i i 1 (by unfold natMax; omega)
    rw [hd]
    simp only [onS, hnum]
    cases hq0 : (decide (x = 0) != g.2) with
    | true =>
      have hq : (!(decide (x = 0) == g.2)) = true := hq0
      simp only [loopN, q61_7, q61_2, q61_3, q61_4, q61_5, SIM, ST0, h2, h7, h8, h9, hc, hat, hir, getF_old hb, getF_old hN, hx, hq, Nat.reduceAdd, Nat.reduceLeDiff]
      exact .with (fun _ => rfl)
    | false =>
      have hq : (!(decide (x = 0) == g.2)) = false := hq0
      have key := ih (i + 1) (by omega) fu' (by omega) (H ++ [.cells [.int .i64 (g.1 : Int), .bool g.2]]) e (getF_old hb _) (getF_old hN _)
      simp only [loopN, q61_7, q61_2, q61_3, q61_4, q61_6, SIM, ST0, h2, h7, h8, h9, hc, hat, hir, getF_old hb, getF_old hN, hx, hq, ha, Nat.reduceAdd, Nat.reduceLeDiff]
      exact (key _ ⟨rfl, rfl, rfl, rfl⟩).up

theorem on_ok {M : Memo} (hM : ∀ a, M 61 a = none) {H : Heap} {u N n : Nat} {cs : List AV} (hu : u < H.length) (hN : getF H N = some (.cells cs)) {gs : List (Nat × Bool)} {V : AV} (hV : LstV 140 2 V (gs.map gdV)) (hl : gs.length < 1000) (hcs : ∀ g ∈ gs, ∃ x, getF cs g.1 = some (.int .i64 x) ∧ g.1 < n) :
    orc CC M 61 [bkV u N n, V] H = some (.ret (.bool (onS cs gs)) H (lenF H)) := by
  refine begin_ (z := z61) (hM _) (by kernel_rfl) rfl ?_
  have e0 : (envOf [bkV u N n, V] 0 env0).a.a.a = bkV u N n := rfl
  have e1 : (envOf [bkV u N n, V] 0 env0).a.a.b = V := rfl
  generalize envOf [bkV u N n, V] 0 env0 = R at e0 e1
  have hb := bx_bk (n := n) hu (getF_lt hN)
  have hlen : lenV CC 140 V = some (.int .i64 (gs.length : Int)) := by rw [hV.len, List.length_map]
  have hbk : getF (H ++ [.cells [.ptr u 0, .rsl N 0 n n 1]]) (lenF H) = some (.cells [.ptr u 0, .rsl N 0 n n 1]) := by rw [getF_app0]; rfl
  have lp := on_loop (M := M) hV hl hcs gs.length 0 rfl 100000 (by omega) (H ++ [.cells [.ptr u 0, .rsl N 0 n n 1]]) (lenF H) hbk (getF_old hN _)
  rw [List.drop_zero] at lp
  obtain ⟨f, hf⟩ := sk lp
  obtain ⟨r0, hr0, hpre⟩ : ∃ r, (r.a.a.c = .ptr (lenF H) 0 ∧ r.a.a.h = V ∧ r.a.b.a = .int .i64 (gs.length : Int) ∧ r.a.b.b = .int .i64 ((0 : Nat) : Int)) ∧ z61.sh (orc CC M) R [] ⟨H, lenF H⟩ = seqK (seqZ (q61_8 (orc CC M)) retZ) (blkK 0 (loopN (q61_7 (orc CC M)) 100000 r [] ⟨H ++ [.cells [.ptr u 0, .rsl N 0 n n 1]], lenF H⟩)) := by
    simp only [z61, q61_0, q61_1, SIM, ST0, e0, e1, hb, hlen, Nat.reduceAdd, Nat.reduceLeDiff]
    exact ⟨_, ⟨rfl, rfl, rfl, rfl⟩, rfl⟩
  rw [hpre]
  obtain ⟨L, h1, h2⟩ := hf r0 hr0
  rw [h1, List.append_assoc]
  cases hq : onS cs gs with
  | true => simp only [z61, q61_8, SIM, ST0, takeF_app]
  | false =>
    have h3 := h2 hq
    simp only [z61, q61_8, SIM, ST0, h3, takeF_app]
end Go.Proofs
set_option maxRecDepth 100000
namespace Go.Proofs
open Go Go.Abs

abbrev intsV (l : List Int) (n : Lin) : AV := .sl 1 (l.map (.int .i64 ·)) n
theorem ias_ints {l : List Int} {n : Lin} {i : Nat} {x : Int} (h : l[i]? = some x) : iasV 1 (intsV l n) (.int .i64 (i : Int)) = some (.iptr [.int .i64 x]) :=
  iasV_i (v := .int .i64 x) (by rw [getF_eq, List.getElem?_map, h]; rfl)

/-- what a sign does -/
def applyS (op : List Nat) (l : List Int) : Option Int := match op, l with
  | [99,111,112,121], [a] => some a
  | [105,102], [a, b, c] => some (cond (decide (a = 0)) c b)
  | [43], [a, b] => some (addF a b)
  | _, _ => none

theorem apply_copy {M : Memo} (hM : ∀ a, M 62 a = none) (H : Heap) (a : Int) (n : Lin) : orc CC M 62 [.str [99,111,112,121], intsV [a] n] H = some (.ret (.int .i64 a) H (lenF H)) := by
  refine begin_ (z := z62) (hM _) (by kernel_rfl) rfl ?_
  have e0 : (envOf [.str [99,111,112,121], intsV [a] n] 0 env0).a.a.a = .str [99,111,112,121] := rfl
  have e1 : (envOf [.str [99,111,112,121], intsV [a] n] 0 env0).a.a.b = intsV [a] n := rfl
  generalize envOf [.str [99,111,112,121], intsV [a] n] 0 env0 = R at e0 e1
  have i0 : iasV 1 (intsV [a] n) (.int .i64 0) = some (.iptr [.int .i64 a]) := ias_ints (i := 0) rfl
  have s0 : strEq [99,111,112,121] [99,111,112,121] = true := by decide
  simp only [z62, q62_0, q62_1, q62_2, q62_3, SIM, ST0, e0, e1, i0, s0, Nat.reduceAdd, Nat.reduceLeDiff]
theorem apply_add {M : Memo} (hM : ∀ a, M 62 a = none) (H : Heap) (a b : Int) (n : Lin) : orc CC M 62 [.str [43], intsV [a, b] n] H = some (.ret (.int .i64 (addF a b)) H (lenF H)) := by
  refine begin_ (z := z62) (hM _) (by kernel_rfl) rfl ?_
  have e0 : (envOf [.str [43], intsV [a, b] n] 0 env0).a.a.a = .str [43] := rfl
  have e1 : (envOf [.str [43], intsV [a, b] n] 0 env0).a.a.b = intsV [a, b] n := rfl
  generalize envOf [.str [43], intsV [a, b] n] 0 env0 = R at e0 e1
  have i0 : iasV 1 (intsV [a, b] n) (.int .i64 0) = some (.iptr [.int .i64 a]) := ias_ints (i := 0) rfl
  have i1 : iasV 1 (intsV [a, b] n) (.int .i64 1) = some (.iptr [.int .i64 b]) := ias_ints (i := 1) rfl
  have s0 : strEq [99,111,112,121] [43] = false := by decide
  have s1 : strEq [110,101,103] [43] = false := by decide
  have s2 : strEq [110,111,116] [43] = false := by decide
  have s3 : strEq [105,102] [43] = false := by decide
  have s4 : strEq [43] [43] = true := by decide
  have t0 : strEq [43] [99,111,112,121] = false := by decide
  have t1 : strEq [43] [110,101,103] = false := by decide
  have t2 : strEq [43] [110,111,116] = false := by decide
  have t3 : strEq [43] [105,102] = false := by decide
  simp only [z62, q62_0, q62_1, q62_2, q62_3, q62_4, q62_5, q62_6, q62_7, q62_8, q62_9, q62_10, q62_11, q62_12, q62_13, SIM, ST0, ST1, e0, e1, i0, i1, s0, s1, s2, s3, s4, t0, t1, t2, t3, Nat.reduceAdd, Nat.reduceLeDiff]
theorem apply_if {M : Memo} (hM : ∀ a, M 62 a = none) (H : Heap) (a b c : Int) (n : Lin) : orc CC M 62 [.str [105,102], intsV [a, b, c] n] H = some (.ret (.int .i64 (cond (decide (a = 0)) c b)) H (lenF H)) := by
  refine begin_ (z := z62) (hM _) (by kernel_rfl) rfl ?_
  have e0 : (envOf [.str [105,102], intsV [a, b, c] n] 0 env0).a.a.a = .str [105,102] := rfl
  have e1 : (envOf [.str [105,102], intsV [a, b, c] n] 0 env0).a.a.b = intsV [a, b, c] n := rfl
  generalize envOf [.str [105,102], intsV [a, b, c] n] 0 env0 = R at e0 e1
  have i0 : iasV 1 (intsV [a, b, c] n) (.int .i64 0) = some (.iptr [.int .i64 a]) := ias_ints (i := 0) rfl
  have i1 : iasV 1 (intsV [a, b, c] n) (.int .i64 1) = some (.iptr [.int .i64 b]) := ias_ints (i := 1) rfl
  have i2 : iasV 1 (intsV [a, b, c] n) (.int .i64 2) = some (.iptr [.int .i64 c]) := ias_ints (i := 2) rfl
  have t0 : strEq [105,102] [99,111,112,121] = false := by decide
  have t1 : strEq [105,102] [110,101,103] = false := by decide
  have t2 : strEq [105,102] [110,111,116] = false := by decide
  have s3 : strEq [105,102] [105,102] = true := by decide
  cases hq : decide (a = 0) <;>
  simp only [z62, q62_0, q62_1, q62_2, q62_3, q62_4, q62_5, q62_6, q62_7, q62_8, q62_9, q62_10, q62_11, SIM, ST0, ST1, e0, e1, i0, i1, i2, t0, t1, t2, s3, hq, Nat.reduceAdd, Nat.reduceLeDiff]

theorem apply_ok {M : Memo} (hM : ∀ a, M 62 a = none) (H : Heap) {op : List Nat} {l : List Int} {x : Int} (n : Lin) (h : applyS op l = some x) : orc CC M 62 [.str op, intsV l n] H = some (.ret (.int .i64 x) H (lenF H)) := by
  unfold applyS at h
  split at h
  · cases h; exact apply_copy hM H _ n
  · cases h; exact apply_if hM H _ _ _ n
  · cases h; exact apply_add hM H _ _ n
  · cases h
end Go.Proofs
set_option maxRecDepth 100000
namespace Go.Proofs
open Go Go.Abs

theorem se32 : sliceElem CC 32 = some 2 := by kernel_rfl
theorem inf2' : (CC.P.info? 2).map (fun i => (i.size, i.bytes)) = some (1, 8) := by kernel_rfl
theorem inf2 : ∃ i, CC.P.info? 2 = some i ∧ i.size = 1 ∧ i.bytes = 8 := by
  have h := inf2'
  cases hi : CC.P.info? 2 with
  | none => rw [hi] at h; cases h
  | some i =>
    rw [hi] at h
    simp only [Option.map_some, Option.some.injEq, Prod.mk.injEq] at h
    exact ⟨i, rfl, h.1, h.2⟩
theorem zero2 : zeroT CC 2 = some (.int .i64 0) := by kernel_rfl
theorem app_nil32 {f : Nat} (hf : CC.mutT f 32 = false) (x : Int) (hp : Heap) (e : Nat) : appendAV CC f 32 .nils (.sl 1 [.int .i64 x] .lit) ⟨hp, e⟩ = some (.sl 1 [.int .i64 x] (.live (lenF hp) 0), ⟨hp ++ [.lin 0], e⟩) := by
  obtain ⟨i, h1, h2, h3⟩ := inf2
  have h4 : [AV.int .i64 x].all (elemOk 1) = true := rfl
  simp only [appendAV, se32, h1, zero2, h2, h3, elemsAV, if_true, h4, List.isEmpty, hf, lenF_eq]
  simp [AV.cells]
theorem app_live32 (f : Nat) {xs : List AV} (x : Int) {hp : Heap} {e id g : Nat} (hg : getF hp id = some (.lin g)) (hl : xs.length + 1 ≤ 2 ^ 24) :
    appendAV CC f 32 (.sl 1 xs (.live id g)) (.sl 1 [.int .i64 x] .lit) ⟨hp, e⟩ = some (.sl 1 (xs ++ [.int .i64 x]) (.live id (g + 1)), ⟨setF hp id (.lin (g + 1)), e⟩) := by
  obtain ⟨i, h1, h2, h3⟩ := inf2
  rw [getF_eq] at hg
  have h4 : [AV.int .i64 x].all (elemOk 1) = true := rfl
  have h5 : decide (xs.length + [AV.int .i64 x].length ≤ 2 ^ 24) = true := by simp; omega
  simp only [appendAV, se32, h1, zero2, h2, h3, elemsAV, if_true, h4, h5, List.isEmpty, hg, setF_eq]
  simp [AV.cells]
theorem bsl32 (a : Int) : bslV CC 32 1 [(0, .int .i64 a)] = some (.sl 1 [.int .i64 a] .lit) := by kernel_rfl
theorem setF_ge {α : Type} {P L : List α} {id : Nat} (h : P.length ≤ id) (v : α) : setF (P ++ L) id v = P ++ setF L (id - P.length) v := by
  rw [setF_eq, setF_eq, List.set_append_right _ _ h]
theorem mut35 : CC.mutT 35 32 = false := by kernel_rfl
theorem mut17 : CC.mutT 17 32 = false := by kernel_rfl

/-- an atom -/
abbrev Atm := Bool × Int × Nat
abbrev Atm.v (a : Atm) : AV := atV a.1 a.2.1 a.2.2
noncomputable def valS (cs : List AV) (a : Atm) : Int := cond a.1 a.2.1 (numAt cs a.2.2)
/-- where a list of numbers stands that is laid on -/
def ArgI (P Hc : Heap) (v : AV) (acc : List Int) : Prop := (acc = [] ∧ v = .nils) ∨ (acc ≠ [] ∧ ∃ id g, v = intsV acc (.live id g) ∧ getF Hc id = some (.lin g) ∧ P.length ≤ id)

theorem get_ok {M : Memo} (hM : ∀ a, M 36 a = none) {H : Heap} {u N n : Nat} {cs : List AV} (hu : u < H.length) (hN : getF H N = some (.cells cs)) {a : Atm} (ha : a.1 = true ∨ ∃ x, getF cs a.2.2 = some (.int .i64 x) ∧ a.2.2 < n) :
    orc CC M 36 [bkV u N n, .agg [.bool a.1, .int .i64 a.2.1, .int .i64 (a.2.2 : Int)]] H = some (.ret (.int .i64 (valS cs a)) H (lenF H)) := by
  obtain ⟨c, k, v⟩ := a
  cases c with
  | true => exact get_c hM hu (getF_lt hN) k v
  | false =>
    obtain ⟨x, hx, hv⟩ := ha.resolve_left (by simp)
    have : valS cs (false, k, v) = x := by unfold valS numAt; simp [hx]
    rw [this]
    exact get_v hM hu hN k hv hx

theorem args_loop {M : Memo} (hM : ∀ a, M 36 a = none) {P : Heap} {N n pb pq u e : Nat} {cs : List AV} (hu : u < P.length) (hb : getF P pb = some (.cells [.ptr u 0, .rsl N 0 n n 1])) (hN : getF P N = some (.cells cs)) (he : e ≤ P.length)
    {ats : List Atm} {V : AV} (hV : LstV 139 3 V (ats.map Atm.v)) (hl : ats.length < 1000) (hats : ∀ a ∈ ats, a.1 = true ∨ ∃ x, getF cs a.2.2 = some (.int .i64 x) ∧ a.2.2 < n) :
    ∀ (d i : Nat), d + i = ats.length → ∀ (fu : Nat), d < fu → ∀ (Hc : Heap), (∃ L, Hc = P ++ L) → ∀ r : RG,
    (r.a.a.c = .ptr pb 0 ∧ r.a.a.e = .ptr pq 0 ∧ r.a.c.g = V ∧ r.a.c.h = .int .i64 (ats.length : Int) ∧ r.a.d.a = .int .i64 (i : Int) ∧ ArgI P Hc r.a.a.f ((ats.take i).map (valS cs))) →
    EndL (.exit 0) (fun r' => r'.a.a.c = .ptr pb 0 ∧ r'.a.a.e = .ptr pq 0 ∧ (ats ≠ [] → ∃ l, r'.a.a.f = intsV (ats.map (valS cs)) l)) P e (loopN (q35_9 (orc CC M)) fu r [] ⟨Hc, e⟩) := by
  intro d
  induction d with
  | zero =>
    intro i hi fu hfu Hc hP r ⟨h2, h4, h22, h23, h24, hA⟩
    obtain ⟨fu', rfl⟩ : ∃ f, fu = f + 1 := ⟨fu - 1, by omega⟩
    obtain ⟨L, rfl⟩ := hP
    have : i = ats.length := by omega
    subst this
    have hc : decide ((ats.length : Int) < (ats.length : Int)) = false := by simp
    simp only [loopN, q35_9, q35_5, SIM, ST0, h23, h24, hc]
    refine .with ⟨h2, h4, fun hne => ?_⟩
    rw [List.take_length] at hA
    rcases hA with ⟨h, _⟩ | ⟨_, id, g, h, _⟩
    · simp at h; exact absurd h hne
    · exact ⟨_, h⟩
  | succ d ih =>
    intro i hi fu hfu Hc hP r ⟨h2, h4, h22, h23, h24, hA⟩
    obtain ⟨fu', rfl⟩ : ∃ f, fu = f + 1 := ⟨fu - 1, by omega⟩
    have hlt : i < ats.length := by omega
    have hc : decide ((i : Int) < (ats.length : Int)) = true := by simp; omega
    have hg : ats[i]? = some ats[i] := by simp [hlt]
    have htk : (ats.take (i + 1)).map (valS cs) = (ats.take i).map (valS cs) ++ [valS cs ats[i]] := by
      rw [List.take_add_one, hg, List.map_append]; rfl
    have hmem := hats ats[i] (List.getElem_mem hlt)
    generalize ats[i] = a at hg htk hmem
    have hat := hV.at_ i a.v (by rw [getF_eq, List.getElem?_map, hg]; rfl)
    have ha : addF (i : Int) 1 = ((i + 1 : Nat) : Int) := addF_i i 1 (by unfold natMax; omega)
    obtain ⟨L, rfl⟩ := hP
    have hbc := getF_old hb L
    have hNc := getF_old hN L
    have huc : u < (P ++ L).length := by rw [List.length_append]; omega
    have hec : e ≤ lenF (P ++ L) := by rw [lenF_eq, List.length_append]; omega
    have hpl : ∃ K, P ++ L = P ++ K := ⟨L, rfl⟩
    have hgt : ∀ (id : Nat), P.length ≤ id → ∀ v, ∃ K, setF (P ++ L) id v = P ++ K := fun id hid v => ⟨_, setF_ge hid v⟩
    have hnew : ∀ K, ∃ K', P ++ L ++ K = P ++ K' := fun K => ⟨L ++ K, by rw [List.append_assoc]⟩
    have hPl : P.length ≤ (P ++ L).length := by rw [List.length_append]; omega
    have ih' := fun Hc (hP : ∃ L, Hc = P ++ L) => ih (i + 1) (by omega) fu' (by omega) Hc hP
    rw [htk] at ih'
    generalize P ++ L = Hc at *
    have hget : orc CC M 36 [bkV u N n, .agg [.bool a.1, .int .i64 a.2.1, .int .i64 (a.2.2 : Int)]] (Hc ++ [.cells [.bool a.1, .int .i64 a.2.1, .int .i64 (a.2.2 : Int)]]) = some (.ret (.int .i64 (valS cs a)) (Hc ++ [.cells [.bool a.1, .int .i64 a.2.1, .int .i64 (a.2.2 : Int)]]) (lenF Hc + 1)) := by
      have := get_ok (H := Hc ++ [.cells [.bool a.1, .int .i64 a.2.1, .int .i64 (a.2.2 : Int)]]) hM (Nat.lt_of_lt_of_le huc (by simp)) (getF_old hNc _) hmem
      rw [this]
      simp [lenF_eq]
    have hmin : min e (lenF Hc + 1) = e := Nat.min_eq_left (by omega)
    rcases hA with ⟨h0, h5⟩ | ⟨h0, id, g, h5, hid, hPid⟩
    · have happ := fun hp e => app_nil32 mut35 (valS cs a) hp e
      rw [h0] at ih'
      have key := ih' (Hc ++ [.cells [.bool a.1, .int .i64 a.2.1, .int .i64 (a.2.2 : Int)], .lin 0]) (hnew _)
      simp only [loopN, q35_9, q35_5, q35_6, q35_7, q35_8, SIM, ST0, h2, h4, h5, h22, h23, h24, hc, hat, getF_old hbc, getF_old hNc, hget, hmin, bsl32, happ, ha, Nat.reduceAdd, Nat.reduceLeDiff]
      refine key _ ⟨by first | rfl | exact h2, by first | rfl | exact h4, by first | rfl | exact h22, by first | rfl | exact h23, rfl, ?_⟩
      have e1 : ∀ o : AObj, lenF (Hc ++ [o]) = lenF Hc + 1 := fun o => by simp [lenF_eq]
      refine .inr ⟨by simp, lenF Hc + 1, 0, ?_, ?_, ?_⟩
      · first | rfl | (simp only [e1]; rfl)
      · rw [getF_app]; rfl
      · rw [lenF_eq]; omega
    · have hlen : (((ats.take i).map (valS cs)).map (AV.int .i64 ·)).length + 1 ≤ 2 ^ 24 := by
        rw [List.length_map, List.length_map, List.length_take]; omega
      have happ : ∀ e, appendAV CC 35 32 (intsV ((ats.take i).map (valS cs)) (.live id g)) (.sl 1 [.int .i64 (valS cs a)] .lit) ⟨Hc ++ [.cells [.bool a.1, .int .i64 a.2.1, .int .i64 (a.2.2 : Int)]], e⟩ =
          some (intsV ((ats.take i).map (valS cs) ++ [valS cs a]) (.live id (g + 1)), ⟨setF Hc id (.lin (g + 1)) ++ [.cells [.bool a.1, .int .i64 a.2.1, .int .i64 (a.2.2 : Int)]], e⟩) := by
        intro e
        rw [intsV, app_live32 35 (valS cs a) (getF_old hid _) hlen, setF_old hid]
        simp [intsV]
      obtain ⟨K, hK⟩ := hgt id hPid (.lin (g + 1))
      have key := ih' (setF Hc id (.lin (g + 1)) ++ [.cells [.bool a.1, .int .i64 a.2.1, .int .i64 (a.2.2 : Int)]]) ⟨K ++ [.cells [.bool a.1, .int .i64 a.2.1, .int .i64 (a.2.2 : Int)]], by rw [hK, List.append_assoc]⟩
      simp only [loopN, q35_9, q35_5, q35_6, q35_7, q35_8, SIM, ST0, h2, h4, h5, h22, h23, h24, hc, hat, getF_old hbc, getF_old hNc, hget, hmin, bsl32, happ, ha, Nat.reduceAdd, Nat.reduceLeDiff]
      refine key _ ⟨by first | rfl | exact h2, by first | rfl | exact h4, by first | rfl | exact h22, by first | rfl | exact h23, rfl, .inr ⟨by simp, id, g + 1, rfl, getF_old (getF_set hid _) _, hPid⟩⟩
end Go.Proofs
set_option maxRecDepth 100000
namespace Go.Proofs
open Go Go.Abs

theorem sto_low {n r b : Nat} {v : AV} {hp : Heap} {e : Nat} {cs : List AV} (hg : getF hp r = some (.cells cs)) (hl : lenF v.cells = n) (hn : n ≤ lenF cs) (ha : v.cells.all AV.one = true) (hlow : v.low b = true) (hb : b ≤ r) :
    stoO n (.ptr r 0) v ⟨hp, e⟩ = some ⟨setF hp r (.cells (putF cs 0 v.cells)), e⟩ := by
  have hlen := getF_lt hg
  have h1 : lowF (lenF hp) v = true := by rw [lowF_eq]; exact AV.low_mono (by rw [lenF_eq]; omega) v hlow
  have h2 : escF v r ⟨hp, e⟩ = e := by unfold escF; rw [lowF_eq, AV.low_mono (by omega : b ≤ r + 1) v hlow]; rfl
  have h3 : Nat.beq (lenF v.cells) n = true := by rw [hl]; exact Nat.beq_refl n
  have h4 : Nat.ble (Nat.add 0 n) (lenF cs) = true := Nat.ble_eq_true_of_le (by simpa using hn)
  simp only [stoO, hg, stoC, h1, h2, h3, h4, ha, Bool.and_self, cond_true]
theorem same_rsl (a b c d e : Nat) : AV.same (.rsl a b c d e) (.rsl a b c d e) = true := by simp [AV.same]

/-- an equation, as the machine holds it: its sign, its place, its atoms, its guards -/
structure EqH (H : Heap) (n : Nat) (cs : List AV) (op : List Nat) (dst : Nat) (A O : AV) (ats : List Atm) (gs : List (Nat × Bool)) : Prop where
  lA : LstV 139 3 A (ats.map Atm.v)
  lO : LstV 140 2 O (gs.map gdV)
  nA : ats.length < 1000
  nO : gs.length < 1000
  ne : ats ≠ []
  low : AV.low H.length (.agg [.str op, .int .i64 (dst : Int), A, O]) = true
  oneA : A.one = true
  oneO : O.one = true
  vA : ∀ a ∈ ats, a.1 = true ∨ ∃ x, getF cs a.2.2 = some (.int .i64 x) ∧ a.2.2 < n
  vO : ∀ g ∈ gs, ∃ x, getF cs g.1 = some (.int .i64 x) ∧ g.1 < n
  vD : dst < n ∧ dst < cs.length

/-- what an equation makes of the places -/
noncomputable def eqS (cs : List AV) (op : List Nat) (dst : Nat) (ats : List Atm) (gs : List (Nat × Bool)) (y : Int) : List AV := cond (onS cs gs) (setF cs dst (.int .i64 y)) cs

theorem eq_ok {M : Memo} (h35 : ∀ a, M 35 a = none) (h36 : ∀ a, M 36 a = none) (h61 : ∀ a, M 61 a = none) (h62 : ∀ a, M 62 a = none) {H : Heap} {u N n i dst : Nat} {uc cs : List AV} {EV A O : AV} {op : List Nat} {ats : List Atm} {gs : List (Nat × Bool)} {y : Int}
    (hu : getF H u = some (.cells uc)) (hN : getF H N = some (.cells cs)) (hE : getF uc 5 = some EV) (hq : iasV 4 EV (.int .i64 (i : Int)) = some (.iptr [.str op, .int .i64 (dst : Int), A, O]))
    (q : EqH H n cs op dst A O ats gs) (hy : onS cs gs = true → applyS op (ats.map (valS cs)) = some y) :
    orc CC M 35 [bkV u N n, .int .i64 (i : Int)] H = some (.ret Abs.undef (setF H N (.cells (eqS cs op dst ats gs y))) (lenF H)) := by
  refine begin_ (z := z35) (h35 _) (by kernel_rfl) rfl ?_
  have e0 : (envOf [bkV u N n, AV.int .i64 (i : Int)] 0 env0).a.a.a = bkV u N n := rfl
  have e1 : (envOf [bkV u N n, AV.int .i64 (i : Int)] 0 env0).a.a.b = .int .i64 (i : Int) := rfl
  generalize envOf [bkV u N n, AV.int .i64 (i : Int)] 0 env0 = R at e0 e1
  have hb := bx_bk (n := n) (getF_lt hu) (getF_lt hN)
  let Q : AV := .agg [.str op, .int .i64 (dst : Int), A, O]
  have hsto : stoC 4 0 (lenF H + 1) (.agg [.str op, .int .i64 (dst : Int), A, O]) [.str op, .int .i64 (dst : Int), A, O] [.str [], .int .i64 0, .nils, .nils] ⟨H ++ [.cells [.ptr u 0, .rsl N 0 n n 1], .cells [.str [], .int .i64 0, .nils, .nils]], lenF H⟩ = some ⟨H ++ [.cells [.ptr u 0, .rsl N 0 n n 1], .cells [.str op, .int .i64 (dst : Int), A, O]], lenF H⟩ := by
    have hg2 : getF (H ++ [.cells [.ptr u 0, .rsl N 0 n n 1], .cells [.str [], .int .i64 0, .nils, .nils]]) (lenF H + 1) = some (.cells [.str [], .int .i64 0, .nils, .nils]) := by rw [getF_app]; rfl
    have hall : (AV.agg [.str op, .int .i64 (dst : Int), A, O]).cells.all AV.one = true := by
      show (AV.one _ && (AV.one _ && (AV.one A && (AV.one O && true)))) = true
      rw [q.oneA, q.oneO]
      rfl
    have := sto_low (n := 4) (r := lenF H + 1) (b := H.length) (e := lenF H) hg2 rfl (Nat.le_refl 4) hall q.low (by rw [lenF_eq]; omega)
    rw [stoO_u, hg2] at this
    refine Eq.trans this ?_
    rw [setF_app]
    rfl
  have hon := on_ok (M := M) h61 (H := H ++ [.cells [.ptr u 0, .rsl N 0 n n 1], .cells [.str op, .int .i64 (dst : Int), A, O]]) (u := u) (N := N) (n := n) (Nat.lt_of_lt_of_le (getF_lt hu) (by simp)) (getF_old hN _) q.lO q.nO q.vO
  have hl2 : lenF (H ++ [.cells [.ptr u 0, .rsl N 0 n n 1], .cells [.str op, .int .i64 (dst : Int), A, O]]) = lenF H + 2 := by simp [lenF_eq]
  rw [hl2] at hon
  have hlA : lenV CC 139 A = some (.int .i64 (ats.length : Int)) := by rw [q.lA.len, List.length_map]
  cases ho : onS cs gs with
  | false =>
    rw [ho] at hon
    simp only [z35, q35_0, q35_1, q35_2, SIM, ST0, e0, e1, hb, getF_old hu, getF_old hN, hE, hq, hsto, hon, Nat.reduceAdd, Nat.reduceLeDiff]
    have : eqS cs op dst ats gs y = cs := by unfold eqS; rw [ho]; rfl
    rw [this, setF_self hN]
  | true =>
    rw [ho] at hon
    have hy' := hy ho
    have lp := args_loop (M := M) h36 (P := H ++ [.cells [.ptr u 0, .rsl N 0 n n 1], .cells [.str op, .int .i64 (dst : Int), A, O]]) (N := N) (n := n) (pb := lenF H) (pq := lenF H + 1) (u := u) (e := lenF H) (cs := cs)
      (Nat.lt_of_lt_of_le (getF_lt hu) (by simp)) (by rw [getF_app0]; rfl) (getF_old hN _) (by rw [lenF_eq]; simp) q.lA q.nA q.vA ats.length 0 rfl 100000 (by have := q.nA; omega) _ ⟨[], by rw [List.append_nil]⟩
    obtain ⟨f, hf⟩ := sk lp
    obtain ⟨r0, hr0, hpre⟩ : ∃ r, (r.a.a.c = .ptr (lenF H) 0 ∧ r.a.a.e = .ptr (lenF H + 1) 0 ∧ r.a.c.g = A ∧ r.a.c.h = .int .i64 (ats.length : Int) ∧ r.a.d.a = .int .i64 ((0 : Nat) : Int) ∧ r.a.a.f = .nils) ∧ z35.sh (orc CC M) R [] ⟨H, lenF H⟩ = seqK (q35_10 (orc CC M)) (blkK 0 (loopN (q35_9 (orc CC M)) 100000 r [] ⟨H ++ [.cells [.ptr u 0, .rsl N 0 n n 1], .cells [.str op, .int .i64 (dst : Int), A, O]], lenF H⟩)) := by
      simp only [z35, q35_0, q35_1, q35_2, q35_3, q35_4, SIM, ST0, e0, e1, hb, getF_old hu, getF_old hN, hE, hq, hsto, hon, hlA, Nat.reduceAdd, Nat.reduceLeDiff]
      exact ⟨_, ⟨rfl, rfl, rfl, rfl, rfl, rfl⟩, rfl⟩
    rw [hpre]
    obtain ⟨L, h1, k2, k4, k5⟩ := hf r0 ⟨hr0.1, hr0.2.1, hr0.2.2.1, hr0.2.2.2.1, hr0.2.2.2.2.1, .inl ⟨by simp, hr0.2.2.2.2.2⟩⟩
    rw [h1, List.append_assoc]
    obtain ⟨l, k5⟩ := k5 q.ne
    generalize f r0 = r1 at k2 k4 k5
    have h62 := fun H => apply_ok (M := M) h62 H l hy'
    have hir := ias_r (N := N) q.vD.1
    have hes : eqS cs op dst ats gs y = setF cs dst (.int .i64 y) := by unfold eqS; rw [ho]; rfl
    rw [hes]
    have hls : ∀ K : Heap, min (lenF H) (lenF (H ++ K)) = lenF H := fun K => by simp [lenF_eq]
    have hdl : dst + 1 ≤ lenF cs := by rw [lenF_eq]; exact q.vD.2
    simp only [z35, q35_10, SIM, ST0, k2, k4, k5, getF_old hN, h62, hir, same_rsl, hls, hdl, setF_old hN, takeF_s, List.cons_append, List.nil_append, Nat.reduceAdd, Nat.reduceLeDiff]
end Go.Proofs
set_option maxRecDepth 100000
namespace Go.Proofs
open Go Go.Abs

theorem set_ok {M : Memo} (h34 : ∀ a, M 34 a = none) {H : Heap} {u N n i : Nat} {cs : List AV} (hu : u < H.length) (hN : getF H N = some (.cells cs)) (x : Int) (hi : i < n) (hc : i < cs.length) :
    orc CC M 34 [bkV u N n, .int .i64 (i : Int), .int .i64 x] H = some (.ret Abs.undef (setF H N (.cells (setF cs i (.int .i64 x)))) (lenF H)) := by
  refine begin_ (z := z34) (h34 _) (by kernel_rfl) rfl ?_
  have e0 : (envOf [bkV u N n, AV.int .i64 (i : Int), .int .i64 x] 0 env0).a.a.a = bkV u N n := rfl
  have e1 : (envOf [bkV u N n, AV.int .i64 (i : Int), .int .i64 x] 0 env0).a.a.b = .int .i64 (i : Int) := rfl
  have e2 : (envOf [bkV u N n, AV.int .i64 (i : Int), .int .i64 x] 0 env0).a.a.c = .int .i64 x := rfl
  generalize envOf [bkV u N n, AV.int .i64 (i : Int), .int .i64 x] 0 env0 = R at e0 e1 e2
  have hb := bx_bk (n := n) hu (getF_lt hN)
  have hir := ias_r (N := N) hi
  have hdl : i + 1 ≤ lenF cs := by rw [lenF_eq]; exact hc
  simp only [z34, q34_0, q34_1, SIM, ST0, e0, e1, e2, hb, getF_old hN, hir, hdl, setF_old hN, takeF_s, Nat.reduceAdd, Nat.reduceLeDiff]

/-- a delay, as the machine holds it -/
structure MemR where
  dst : Nat
  init : Int
  a : Atm
  O : AV
  gs : List (Nat × Bool)
abbrev MemR.l (m : MemR) : List AV := [.int .i64 (m.dst : Int), .int .i64 m.init, .bool m.a.1, .int .i64 m.a.2.1, .int .i64 (m.a.2.2 : Int), m.O]
abbrev MemR.v (m : MemR) : AV := .agg m.l
structure MemH (L n : Nat) (cs : List AV) (m : MemR) : Prop where
  lO : LstV 140 2 m.O (m.gs.map gdV)
  nO : m.gs.length < 1000
  low : AV.low L m.v = true
  oneO : m.O.one = true
  vA : m.a.1 = true ∨ ∃ x, getF cs m.a.2.2 = some (.int .i64 x) ∧ m.a.2.2 < n
  vO : ∀ g ∈ m.gs, ∃ x, getF cs g.1 = some (.int .i64 x) ∧ g.1 < n
  vD : m.dst < n ∧ ∃ x, getF cs m.dst = some (.int .i64 x)
/-- what a delay keeps -/
noncomputable def memS (cs : List AV) (m : MemR) : Int := cond (onS cs m.gs) (valS cs m.a) (numAt cs m.dst)
abbrev memZ : List AV := [.int .i64 0, .int .i64 0, .bool false, .int .i64 0, .int .i64 0, .nils]

theorem sto_mem {Hc : Heap} {L n e : Nat} {cs : List AV} {m : MemR} (q : MemH L n cs m) (hL : L ≤ Hc.length) :
    stoC 6 0 (lenF Hc) (.agg m.l) m.l memZ ⟨Hc ++ [.cells memZ], e⟩ = some ⟨Hc ++ [.cells m.l], e⟩ := by
  have hg2 : getF (Hc ++ [.cells memZ]) (lenF Hc) = some (.cells memZ) := by rw [getF_app0]; rfl
  have hall : (AV.agg m.l).cells.all AV.one = true := by
    show (AV.one _ && (AV.one _ && (AV.one _ && (AV.one _ && (AV.one _ && (AV.one m.O && true)))))) = true
    rw [q.oneO]
    rfl
  have := sto_low (n := 6) (r := lenF Hc) (b := L) (e := e) hg2 rfl (Nat.le_refl 6) hall q.low (by rw [lenF_eq]; omega)
  rw [stoO_u, hg2] at this
  refine Eq.trans this ?_
  rw [setF_app0]
  rfl

theorem getF_setne {α : Type} {l : List α} {n k : Nat} (h : k ≠ n) (v : α) : getF (setF l n v) k = getF l k := by
  rw [getF_eq, getF_eq, setF_eq, List.getElem?_set_ne (Ne.symm h)]

/-- what is ready for the next instant -/
noncomputable def nxS (cs : List AV) (ms : List MemR) (i : Nat) : List AV := (ms.take i).map (fun m => AV.int .i64 (memS cs m)) ++ List.replicate (ms.length - i) (.int .i64 0)
theorem nx_len (cs : List AV) (ms : List MemR) {i : Nat} (h : i ≤ ms.length) : (nxS cs ms i).length = ms.length := by
  unfold nxS
  simp
  omega
theorem nx_step (cs : List AV) (ms : List MemR) {i : Nat} {m : MemR} (h : ms[i]? = some m) : setF (nxS cs ms i) i (.int .i64 (memS cs m)) = nxS cs ms (i + 1) := by
  have hlt : i < ms.length := (List.getElem?_eq_some_iff.1 h).1
  have hl : ((ms.take i).map (fun m => AV.int .i64 (memS cs m))).length = i := by rw [List.length_map, List.length_take]; omega
  unfold nxS
  rw [setF_eq, List.set_append_right _ _ (by omega), hl, Nat.sub_self, List.take_add_one, h, List.map_append, List.append_assoc]
  obtain ⟨k, hk⟩ : ∃ k, ms.length - i = k + 1 := ⟨ms.length - i - 1, by omega⟩
  rw [hk, List.replicate_succ, show ms.length - (i + 1) = k by omega]
  rfl

theorem ias_m {q k i : Nat} (h : i < k) : iasV 6 (.rsl q 0 k k 6) (.int .i64 (i : Int)) = some (.ptr q (i * 6)) := by
  simp [iasV, asNat, h]
theorem len_m (q k : Nat) : lenV CC 84 (.rsl q 0 k k 6) = some (.int .i64 (k : Int)) := by
  kernel_rfl
/-- the delays' row -/
def RowM (mc : List AV) (ms : List MemR) : Prop := ∀ i m, ms[i]? = some m → i * 6 + 6 ≤ lenF mc ∧ takeF 6 (dropF (i * 6) mc) = m.l
theorem keep_loop {M : Memo} (h36 : ∀ a, M 36 a = none) (h61 : ∀ a, M 61 a = none) {P : Heap} {N n pb u e : Nat} {cs : List AV} (hu : u < P.length) (hb : getF P pb = some (.cells [.ptr u 0, .rsl N 0 n n 1])) (hN : getF P N = some (.cells cs)) (he : e ≤ P.length)
    {ms : List MemR} {q : Nat} {mc : List AV} (hq : getF P q = some (.cells mc)) (hV : RowM mc ms) (hl : ms.length < 1000) {L0 : Nat} (hL0 : L0 ≤ P.length) (hms : ∀ m ∈ ms, MemH L0 n cs m) :
    ∀ (d i : Nat), d + i = ms.length → ∀ (fu : Nat), d < fu → ∀ (Hc : Heap), (∃ L, Hc = P ++ (.cells (nxS cs ms i) :: L)) → ∀ r : RG,
    (r.a.a.b = .ptr pb 0 ∧ r.a.a.c = .rsl P.length 0 ms.length ms.length 1 ∧ r.a.c.c = .rsl q 0 ms.length ms.length 6 ∧ r.a.c.d = .int .i64 (ms.length : Int) ∧ r.a.c.e = .int .i64 (i : Int)) →
    ∃ r' L, loopN (q37_9 (orc CC M)) fu r [] ⟨Hc, e⟩ = some (.exit 0, r', [], ⟨P ++ (.cells (nxS cs ms ms.length) :: L), e⟩) ∧ r'.a.a.b = .ptr pb 0 ∧ r'.a.a.c = .rsl P.length 0 ms.length ms.length 1 := by
  intro d
  induction d with
  | zero =>
    intro i hi fu hfu Hc hP r ⟨h1, h2, h18, h19, h20⟩
    obtain ⟨fu', rfl⟩ : ∃ f, fu = f + 1 := ⟨fu - 1, by omega⟩
    obtain ⟨L, rfl⟩ := hP
    have : i = ms.length := by omega
    subst this
    have hc : decide ((ms.length : Int) < (ms.length : Int)) = false := by simp
    simp only [loopN, q37_9, q37_3, SIM, ST0, h19, h20, hc]
    exact ⟨_, _, rfl, h1, h2⟩
  | succ d ih =>
    intro i hi fu hfu Hc hP r ⟨h1, h2, h18, h19, h20⟩
    obtain ⟨fu', rfl⟩ : ∃ f, fu = f + 1 := ⟨fu - 1, by omega⟩
    have hlt : i < ms.length := by omega
    have hc : decide ((i : Int) < (ms.length : Int)) = true := by simp; omega
    have hg : ms[i]? = some ms[i] := by simp [hlt]
    have Q := hms ms[i] (List.getElem_mem hlt)
    generalize ms[i] = m at hg Q
    have hat := ias_m (q := q) hlt
    obtain ⟨hmle, hmtd⟩ := hV i m hg
    have ha : addF (i : Int) 1 = ((i + 1 : Nat) : Int) := addF_i i 1 (by unfold natMax; omega)
    obtain ⟨L, rfl⟩ := hP
    have hnl : i + 1 ≤ lenF (nxS cs ms i) := by rw [lenF_eq, nx_len cs ms (by omega)]; omega
    have hpbP := getF_lt hb
    have hNP := getF_lt hN
    have hbc := getF_old hb (.cells (nxS cs ms i) :: L)
    have hNc := getF_old hN (.cells (nxS cs ms i) :: L)
    have hqc := getF_old hq (.cells (nxS cs ms i) :: L)
    have hnc : getF (P ++ (.cells (nxS cs ms i) :: L)) P.length = some (.cells (nxS cs ms i)) := by rw [← lenF_eq, getF_app0]; rfl
    have hPl : P.length ≤ (P ++ (.cells (nxS cs ms i) :: L)).length := by simp
    have hnew : ∀ nx K, setF (P ++ (.cells (nxS cs ms i) :: L)) P.length (.cells nx) ++ K = P ++ (.cells nx :: (L ++ K)) := fun nx K => by
      rw [← lenF_eq, setF_app0, List.append_assoc]; rfl
    have hstep := nx_step cs ms hg
    generalize P ++ (.cells (nxS cs ms i) :: L) = Hc at *
    obtain ⟨x, hx⟩ := Q.vD.2
    have hnum : numAt cs m.dst = x := by unfold numAt; rw [hx]
    have hird := ias_r (N := N) Q.vD.1
    have hirn := ias_r (N := P.length) hlt
    have hsto := sto_mem (e := e) (Hc := Hc) Q (by omega)
    let H2 : Heap := setF Hc P.length (.cells (setF (nxS cs ms i) i (.int .i64 x)))
    have hb2 : getF H2 pb = some (.cells [.ptr u 0, .rsl N 0 n n 1]) := by rw [getF_setne (by omega), hbc]
    have hN2 : getF H2 N = some (.cells cs) := by rw [getF_setne (by omega), hNc]
    have hn2 : getF H2 P.length = some (.cells (setF (nxS cs ms i) i (.int .i64 x))) := getF_set hnc _
    have hl2 : ∀ o : AObj, lenF (H2 ++ [o]) = lenF Hc + 1 := fun o => by simp [H2, lenF_eq, setF_eq]
    have huc : ∀ o : AObj, u < (H2 ++ [o]).length := fun o => by have := hl2 o; rw [lenF_eq, lenF_eq] at this; omega
    have hmin : min e (lenF Hc + 1) = e := Nat.min_eq_left (by rw [lenF_eq]; omega)
    have hon := on_ok (M := M) h61 (n := n) (huc (.cells m.l)) (getF_old hN2 [.cells m.l]) Q.lO Q.nO Q.vO
    have hget := get_ok (M := M) h36 (n := n) (huc (.cells m.l)) (getF_old hN2 [.cells m.l]) Q.vA
    rw [hl2] at hon hget
    have hi1 : i + 1 ≤ lenF (setF (nxS cs ms i) i (AV.int .i64 x)) := by rw [lenF_set]; exact hnl
    have key := ih (i + 1) (by omega) fu' (by omega)
    cases ho : onS cs m.gs with
    | false =>
      have hm : memS cs m = x := by unfold memS; rw [ho, hnum]; rfl
      rw [hm] at hstep
      rw [ho] at hon
      have key2 := key (setF Hc P.length (.cells (setF (nxS cs ms i) i (.int .i64 x))) ++ [.cells m.l]) ⟨_, by rw [hstep]; exact hnew _ _⟩
      simp only [H2, MemR.l] at hb2 hN2 hn2 hon hget hsto key2 hmtd
      simp only [loopN, q37_9, q37_3, q37_4, q37_5, q37_6, q37_8, SIM, ST0, ST1, h1, h2, h18, h19, h20, hc, hat, hqc, hmle, hmtd, hsto, hird, hirn, getF_old hbc, getF_old hNc, getF_old hnc, setF_old hnc, getF_old hb2, getF_old hN2, getF_old hn2, hnl, hx, hon, hmin, ha, Nat.reduceAdd, Nat.reduceLeDiff]
      exact key2 _ ⟨by first | rfl | exact h1, by first | rfl | exact h2, by first | rfl | exact h18, by first | rfl | exact h19, rfl⟩
    | true =>
      have hm : memS cs m = valS cs m.a := by unfold memS; rw [ho]; rfl
      rw [hm] at hstep
      rw [ho] at hon
      have key2 := key (setF Hc P.length (.cells (setF (nxS cs ms i) i (.int .i64 (valS cs m.a)))) ++ [.cells m.l]) ⟨_, by rw [hstep]; exact hnew _ _⟩
      simp only [H2, MemR.l] at hb2 hN2 hn2 hon hget hsto key2 hmtd
      simp only [loopN, q37_9, q37_3, q37_4, q37_5, q37_6, q37_7, q37_8, SIM, ST0, ST1, h1, h2, h18, h19, h20, hc, hat, hqc, hmle, hmtd, hsto, hird, hirn, getF_old hbc, getF_old hNc, getF_old hnc, setF_old hnc, getF_old hb2, getF_old hN2, getF_old hn2, setF_old hn2, setF_ss, hnl, hi1, hx, hon, hget, hmin, ha, Nat.reduceAdd, Nat.reduceLeDiff]
      exact key2 _ ⟨by first | rfl | exact h1, by first | rfl | exact h2, by first | rfl | exact h18, by first | rfl | exact h19, rfl⟩
end Go.Proofs
set_option maxRecDepth 100000
namespace Go.Proofs
open Go Go.Abs

noncomputable def keepC (cs : List AV) (ms : List MemR) (i : Nat) : List AV := (ms.take i).foldl (fun c m => setF c m.dst (.int .i64 (memS cs m))) cs
theorem keepC_step (cs : List AV) (ms : List MemR) {i : Nat} {m : MemR} (h : ms[i]? = some m) : keepC cs ms (i + 1) = setF (keepC cs ms i) m.dst (.int .i64 (memS cs m)) := by
  unfold keepC
  rw [List.take_add_one, h, List.foldl_append]
  rfl
theorem keepC_len (cs : List AV) (ms : List MemR) : ∀ i, (keepC cs ms i).length = cs.length := by
  intro i
  induction i with
  | zero => rfl
  | succ i ih =>
    cases h : ms[i]? with
    | none =>
      have : keepC cs ms (i + 1) = keepC cs ms i := by unfold keepC; rw [List.take_add_one, h]; simp
      rw [this, ih]
    | some m => rw [keepC_step cs ms h, setF_eq, List.length_set, ih]
theorem nx_get (cs : List AV) (ms : List MemR) {i : Nat} {m : MemR} (h : ms[i]? = some m) : getF (nxS cs ms ms.length) i = some (.int .i64 (memS cs m)) := by
  unfold nxS
  rw [List.take_length, Nat.sub_self, List.replicate_zero, List.append_nil, getF_eq, List.getElem?_map, h]
  rfl

theorem back_loop {M : Memo} {H : Heap} {N n pb pn u e : Nat} {cs : List AV} (hNH : N < H.length) (hpb : H.length ≤ pb) (hpn : H.length ≤ pn)
    {ms : List MemR} {q : Nat} {mc : List AV} (hq : getF H q = some (.cells mc)) (hqN : q ≠ N) (hV : RowM mc ms) (hl : ms.length < 1000) {L0 : Nat} (hL0 : L0 ≤ H.length) (hms : ∀ m ∈ ms, MemH L0 n cs m) :
    ∀ (d i : Nat), d + i = ms.length → ∀ (fu : Nat), d < fu → ∀ (Hc : Heap), (∃ L, Hc = setF H N (.cells (keepC cs ms i)) ++ L) → getF Hc pb = some (.cells [.ptr u 0, .rsl N 0 n n 1]) → getF Hc N = some (.cells (keepC cs ms i)) → getF Hc pn = some (.cells (nxS cs ms ms.length)) → ∀ r : RG,
    (r.a.a.b = .ptr pb 0 ∧ r.a.a.c = .rsl pn 0 ms.length ms.length 1 ∧ r.a.g.c = .rsl q 0 ms.length ms.length 6 ∧ r.a.g.d = .int .i64 (ms.length : Int) ∧ r.a.g.e = .int .i64 (i : Int)) →
    ∃ r' L, loopN (q37_15 (orc CC M)) fu r [] ⟨Hc, e⟩ = some (.exit 2, r', [], ⟨setF H N (.cells (keepC cs ms ms.length)) ++ L, e⟩) := by
  intro d
  induction d with
  | zero =>
    intro i hi fu hfu Hc hP hb hN hn r ⟨h1, h2, h18, h19, h20⟩
    obtain ⟨fu', rfl⟩ : ∃ f, fu = f + 1 := ⟨fu - 1, by omega⟩
    obtain ⟨L, rfl⟩ := hP
    have : i = ms.length := by omega
    subst this
    have hc : decide ((ms.length : Int) < (ms.length : Int)) = false := by simp
    simp only [loopN, q37_15, q37_11, SIM, ST0, ST1, h19, h20, hc]
    exact ⟨_, _, rfl⟩
  | succ d ih =>
    intro i hi fu hfu Hc hP hb hN hn r ⟨h1, h2, h18, h19, h20⟩
    obtain ⟨fu', rfl⟩ : ∃ f, fu = f + 1 := ⟨fu - 1, by omega⟩
    have hlt : i < ms.length := by omega
    have hc : decide ((i : Int) < (ms.length : Int)) = true := by simp; omega
    have hg : ms[i]? = some ms[i] := by simp [hlt]
    have Q := hms ms[i] (List.getElem_mem hlt)
    generalize ms[i] = m at hg Q
    have hat := ias_m (q := q) hlt
    obtain ⟨hmle, hmtd⟩ := hV i m hg
    have ha : addF (i : Int) 1 = ((i + 1 : Nat) : Int) := addF_i i 1 (by unfold natMax; omega)
    have hnx := nx_get cs ms hg
    obtain ⟨x, hx⟩ := Q.vD.2
    have hdl : m.dst + 1 ≤ lenF (keepC cs ms i) := by
      have := getF_lt hx
      rw [lenF_eq, keepC_len]; omega
    have hird := ias_r (N := N) Q.vD.1
    have hirn := ias_r (N := pn) hlt
    obtain ⟨L, rfl⟩ := hP
    have hqc : getF (setF H N (.cells (keepC cs ms i)) ++ L) q = some (.cells mc) := getF_old (by rw [getF_setne hqN, hq]) L
    have hNl : N < (setF H N (.cells (keepC cs ms i))).length := by rw [setF_eq, List.length_set]; exact hNH
    have hHl : H.length ≤ (setF H N (.cells (keepC cs ms i)) ++ L).length := by rw [List.length_append, setF_eq, List.length_set]; omega
    have hnew : ∀ c K, setF (setF H N (.cells (keepC cs ms i)) ++ L) N (.cells c) ++ K = setF H N (.cells c) ++ (L ++ K) := fun c K => by
      rw [setF_eq (_ ++ _), List.set_append_left _ _ hNl, ← setF_eq, setF_ss, List.append_assoc]
    have hstep := keepC_step cs ms hg
    generalize setF H N (.cells (keepC cs ms i)) ++ L = Hc at *
    have hsto := sto_mem (e := e) (Hc := Hc) Q (by omega)
    have key := ih (i + 1) (by omega) fu' (by omega) (setF Hc N (.cells (setF (keepC cs ms i) m.dst (.int .i64 (memS cs m)))) ++ [.cells m.l]) ⟨_, by rw [hstep]; exact hnew _ _⟩
      (getF_old (by rw [getF_setne (by omega), hb]) _) (getF_old (by rw [hstep]; exact getF_set hN _) _) (getF_old (by rw [getF_setne (by omega), hn]) _)
    simp only [MemR.l] at hsto key hmtd
    simp only [loopN, q37_15, q37_11, q37_12, q37_13, q37_14, SIM, ST0, ST1, h1, h2, h18, h19, h20, hc, hat, hqc, hmle, hmtd, hsto, hird, hirn, getF_old hb, getF_old hN, getF_old hn, setF_old hN, hnx, hdl, ha, Nat.reduceAdd, Nat.reduceLeDiff]
    exact key _ ⟨by first | rfl | exact h1, by first | rfl | exact h2, by first | rfl | exact h18, by first | rfl | exact h19, rfl⟩

theorem flat_rep (m : Nat) (v : AV) (h : v.cells = [v]) : flatCells (List.replicate m v) = List.replicate m v := by
  induction m with
  | zero => rfl
  | succ m ih =>
    rw [List.replicate_succ]
    unfold flatCells at ih ⊢
    rw [List.flatMap_cons, h, ih]
    rfl
theorem ms32 {m : Nat} (hm : m < 1000) : msV CC 32 (.int .i64 (m : Int)) (.int .i64 (m : Int)) = some (.cells (List.replicate m (.int .i64 0)), fun n => .rsl n 0 m m 1) := by
  obtain ⟨i, h1, h2, h3⟩ := inf2
  have hn : asNat (.int .i64 (m : Int)) = some m := by simp [asNat]
  have hf := flat_rep m (.int .i64 0) rfl
  have hc : 0 < i.size ∧ m ≤ m ∧ i.bytes * m ≤ 2 ^ 40 ∧ m ≤ 2 ^ 40 ∧ (AV.int .i64 0).cells.length = i.size := by
    rw [h2, h3]
    refine ⟨by decide, Nat.le_refl m, by omega, by omega, rfl⟩
  simp only [msV, se32, h1, zero2, hn]
  rw [if_pos hc, hf, h2]

theorem keep_ok {M : Memo} (h37 : ∀ a, M 37 a = none) (h36 : ∀ a, M 36 a = none) (h61 : ∀ a, M 61 a = none) {H : Heap} {u N n : Nat} {uc cs : List AV} {ms : List MemR} {q : Nat} {mc : List AV}
    (hu : getF H u = some (.cells uc)) (hN : getF H N = some (.cells cs)) (hE : getF uc 6 = some (.rsl q 0 ms.length ms.length 6)) (hq : getF H q = some (.cells mc)) (hqN : q ≠ N) (hV : RowM mc ms) (hl : ms.length < 1000) (hms : ∀ m ∈ ms, MemH H.length n cs m) :
    orc CC M 37 [bkV u N n] H = some (.ret Abs.undef (setF H N (.cells (keepC cs ms ms.length))) (lenF H)) := by
  refine begin_ (z := z37) (h37 _) (by kernel_rfl) rfl ?_
  have e0 : (envOf [bkV u N n] 0 env0).a.a.a = bkV u N n := rfl
  generalize envOf [bkV u N n] 0 env0 = R at e0
  have hb := bx_bk (n := n) (getF_lt hu) (getF_lt hN)
  have hlen := len_m q ms.length
  have hms32 := ms32 hl
  have hPl : (H ++ [AObj.cells [.ptr u 0, .rsl N 0 n n 1]]).length = lenF H + 1 := by simp [lenF_eq]
  have hnx0 : nxS cs ms 0 = List.replicate ms.length (.int .i64 0) := by unfold nxS; simp
  have lp := keep_loop (M := M) h36 h61 (P := H ++ [.cells [.ptr u 0, .rsl N 0 n n 1]]) (N := N) (n := n) (pb := lenF H) (u := u) (e := lenF H) (cs := cs)
    (Nat.lt_of_lt_of_le (getF_lt hu) (by simp)) (by rw [getF_app0]; rfl) (getF_old hN _) (by rw [lenF_eq]; simp) (getF_old hq _) hV hl (L0 := H.length) (by simp) hms ms.length 0 rfl 100000 (by omega) (H ++ [.cells [.ptr u 0, .rsl N 0 n n 1], .cells (List.replicate ms.length (.int .i64 0))]) ⟨[], by rw [hnx0, List.append_assoc]; rfl⟩
  rw [hPl] at lp
  obtain ⟨f, hf⟩ := sk lp
  obtain ⟨r0, hr0, hpre⟩ : ∃ r, (r.a.a.b = .ptr (lenF H) 0 ∧ r.a.a.c = .rsl (lenF H + 1) 0 ms.length ms.length 1 ∧ r.a.c.c = .rsl q 0 ms.length ms.length 6 ∧ r.a.c.d = .int .i64 (ms.length : Int) ∧ r.a.c.e = .int .i64 ((0 : Nat) : Int)) ∧ z37.sh (orc CC M) R [] ⟨H, lenF H⟩ = seqK (seqZ (q37_10 (orc CC M)) (blkZ 2 (loopZ (q37_15 (orc CC M))))) (blkK 0 (loopN (q37_9 (orc CC M)) 100000 r [] ⟨H ++ [.cells [.ptr u 0, .rsl N 0 n n 1], .cells (List.replicate ms.length (.int .i64 0))], lenF H⟩)) := by
    simp only [z37, q37_0, q37_1, q37_2, SIM, ST0, e0, hb, hlen, hms32, getF_old hu, hE, Nat.reduceAdd, Nat.reduceLeDiff]
    exact ⟨_, ⟨rfl, rfl, rfl, rfl, rfl⟩, rfl⟩
  rw [hpre]
  obtain ⟨L, h1, k1, k2⟩ := hf r0 hr0
  rw [h1]
  generalize f r0 = r1 at k1 k2
  have hHc : H ++ [AObj.cells [.ptr u 0, .rsl N 0 n n 1]] ++ (.cells (nxS cs ms ms.length) :: L) = H ++ (.cells [.ptr u 0, .rsl N 0 n n 1] :: .cells (nxS cs ms ms.length) :: L) := by rw [List.append_assoc]; rfl
  rw [hHc]
  have lp2 := back_loop (M := M) (H := H) (N := N) (n := n) (pb := lenF H) (pn := lenF H + 1) (u := u) (e := lenF H) (cs := cs) (getF_lt hN) (by rw [lenF_eq]; omega) (by rw [lenF_eq]; omega) hq hqN hV hl (L0 := H.length) (Nat.le_refl _) hms ms.length 0 rfl 100000 (by omega)
    (H ++ (.cells [.ptr u 0, .rsl N 0 n n 1] :: .cells (nxS cs ms ms.length) :: L)) ⟨.cells [.ptr u 0, .rsl N 0 n n 1] :: .cells (nxS cs ms ms.length) :: L, by rw [show keepC cs ms 0 = cs from rfl, setF_self hN]⟩ (by rw [getF_app0]; rfl) (getF_old hN _) (by rw [getF_app]; rfl)
  obtain ⟨g, hg⟩ := sk lp2
  obtain ⟨r2, hr2, hpre2⟩ : ∃ r, (r.a.a.b = .ptr (lenF H) 0 ∧ r.a.a.c = .rsl (lenF H + 1) 0 ms.length ms.length 1 ∧ r.a.g.c = .rsl q 0 ms.length ms.length 6 ∧ r.a.g.d = .int .i64 (ms.length : Int) ∧ r.a.g.e = .int .i64 ((0 : Nat) : Int)) ∧ seqK (seqZ (q37_10 (orc CC M)) (blkZ 2 (loopZ (q37_15 (orc CC M))))) (blkK 0 (some (.exit 0, r1, [], ⟨H ++ (.cells [.ptr u 0, .rsl N 0 n n 1] :: .cells (nxS cs ms ms.length) :: L), lenF H⟩))) = blkK 2 (loopN (q37_15 (orc CC M)) 100000 r [] ⟨H ++ (.cells [.ptr u 0, .rsl N 0 n n 1] :: .cells (nxS cs ms ms.length) :: L), lenF H⟩) := by
    simp only [q37_10, SIM, ST0, ST1, k1, k2, hlen, getF_old hu, hE, Nat.reduceAdd, Nat.reduceLeDiff]
    exact ⟨_, ⟨by first | rfl | exact k1, by first | rfl | exact k2, rfl, rfl, rfl⟩, rfl⟩
  rw [hpre2]
  obtain ⟨L2, h2⟩ := hg r2 hr2
  rw [h2]
  simp only [z37, SIM, takeF_s]
end Go.Proofs
set_option maxRecDepth 100000
namespace Go.Proofs
open Go Go.Abs

/-- places: as many numbers -/
def RegH (cs : List AV) (n : Nat) : Prop := cs.length = n ∧ ∀ v, v < n → ∃ x, getF cs v = some (.int .i64 x)
theorem RegH.set {cs : List AV} {n : Nat} (h : RegH cs n) (i : Nat) (x : Int) : RegH (setF cs i (.int .i64 x)) n := by
  refine ⟨by rw [setF_eq, List.length_set]; exact h.1, fun v hv => ?_⟩
  by_cases hi : v = i
  · subst hi
    obtain ⟨y, hy⟩ := h.2 v hv
    exact ⟨x, getF_set hy _⟩
  · obtain ⟨y, hy⟩ := h.2 v hv
    exact ⟨y, by rw [getF_setne hi, hy]⟩

/-- an equation -/
structure EqR where
  op : List Nat
  dst : Nat
  A : AV
  O : AV
  ats : List Atm
  gs : List (Nat × Bool)
structure EqK (L n : Nat) (q : EqR) : Prop where
  lA : LstV 139 3 q.A (q.ats.map Atm.v)
  lO : LstV 140 2 q.O (q.gs.map gdV)
  nA : q.ats.length < 1000
  nO : q.gs.length < 1000
  ne : q.ats ≠ []
  low : AV.low L (.agg [.str q.op, .int .i64 (q.dst : Int), q.A, q.O]) = true
  oneA : q.A.one = true
  oneO : q.O.one = true
  vA : ∀ a ∈ q.ats, a.1 = true ∨ a.2.2 < n
  vO : ∀ g ∈ q.gs, g.1 < n
  vD : q.dst < n
  opn : ∀ l : List Int, l.length = q.ats.length → ∃ y, applyS q.op l = some y
def valO : Option Int → Int
  | some y => y
  | none => 0
/-- the places behind an equation -/
noncomputable def eqT (cs : List AV) (q : EqR) : List AV := eqS cs q.op q.dst q.ats q.gs (valO (applyS q.op (q.ats.map (valS cs))))
theorem RegH.eqT {cs : List AV} {n : Nat} (h : RegH cs n) (q : EqR) : RegH (eqT cs q) n := by
  unfold Proofs.eqT eqS
  cases onS cs q.gs with
  | true => exact h.set _ _
  | false => exact h
theorem EqK.to {L n : Nat} {q : EqR} (k : EqK L n q) {H : Heap} (hL : L ≤ H.length) {cs : List AV} (h : RegH cs n) : EqH H n cs q.op q.dst q.A q.O q.ats q.gs where
  lA := k.lA
  lO := k.lO
  nA := k.nA
  nO := k.nO
  ne := k.ne
  low := AV.low_mono hL _ k.low
  oneA := k.oneA
  oneO := k.oneO
  vA := fun a ha => (k.vA a ha).imp id fun hv => by obtain ⟨x, hx⟩ := h.2 _ hv; exact ⟨x, hx, hv⟩
  vO := fun g hg => by obtain ⟨x, hx⟩ := h.2 _ (k.vO g hg); exact ⟨x, hx, k.vO g hg⟩
  vD := ⟨k.vD, by rw [h.1]; exact k.vD⟩

abbrev natV (i : Nat) : AV := .int .i64 (i : Int)
structure MemK (L n : Nat) (m : MemR) : Prop where
  lO : LstV 140 2 m.O (m.gs.map gdV)
  nO : m.gs.length < 1000
  low : AV.low L m.v = true
  oneO : m.O.one = true
  vA : m.a.1 = true ∨ m.a.2.2 < n
  vO : ∀ g ∈ m.gs, g.1 < n
  vD : m.dst < n
theorem MemK.to {L n : Nat} {m : MemR} (k : MemK L n m) {L' : Nat} (hL : L ≤ L') {cs : List AV} (h : RegH cs n) : MemH L' n cs m where
  lO := k.lO
  nO := k.nO
  low := AV.low_mono hL _ k.low
  oneO := k.oneO
  vA := k.vA.imp id fun hv => by obtain ⟨x, hx⟩ := h.2 _ hv; exact ⟨x, hx, hv⟩
  vO := fun g hg => by obtain ⟨x, hx⟩ := h.2 _ (k.vO g hg); exact ⟨x, hx, k.vO g hg⟩
  vD := ⟨k.vD, h.2 _ k.vD⟩
/-- a unit in a bank, and the order of its equations -/
structure UnitH (H : Heap) (so u N n : Nat) (ins outs ord : List Nat) (eqs : List EqR) (ms : List MemR) : Prop where
  hs : ∃ ORD, getF H so = some (.cells [.ptr u 0, .rsl N 0 n n 1, ORD]) ∧ LstV 22 1 ORD (ord.map natV)
  hu : ∃ uc IV OV EV q mc, getF H u = some (.cells uc) ∧ getF uc 3 = some IV ∧ LstV 22 1 IV (ins.map natV) ∧ getF uc 4 = some OV ∧ LstV 22 1 OV (outs.map natV) ∧
    getF uc 5 = some EV ∧ (∀ (i : Nat) (q : EqR), eqs[i]? = some q → iasV 4 EV (.int .i64 (i : Int)) = some (.iptr [.str q.op, .int .i64 (q.dst : Int), q.A, q.O])) ∧ getF uc 6 = some (.rsl q 0 ms.length ms.length 6) ∧ getF H q = some (.cells mc) ∧ q ≠ N ∧ RowM mc ms
  ne : so ≠ N ∧ u ≠ N
  eq : ∀ q ∈ eqs, EqK H.length n q
  mem : ∀ m ∈ ms, MemK H.length n m
  ino : ∀ i ∈ ins, i < n
  outo : ∀ i ∈ outs, i < n
  ordo : ∀ i ∈ ord, i < eqs.length
  sm : ins.length < 1000 ∧ outs.length < 1000 ∧ ord.length < 1000 ∧ ms.length < 1000

structure SoloM (M : Memo) : Prop where
  h34 : ∀ a, M 34 a = none
  h35 : ∀ a, M 35 a = none
  h36 : ∀ a, M 36 a = none
  h37 : ∀ a, M 37 a = none
  h61 : ∀ a, M 61 a = none
  h62 : ∀ a, M 62 a = none

noncomputable def ordT (eqs : List EqR) (ord : List Nat) (cs : List AV) : List AV := ord.foldl (fun c i => match eqs[i]? with
  | some q => eqT c q
  | none => c) cs

theorem ord_loop {M : Memo} (hM : SoloM M) {H : Heap} {so u N n e : Nat} {ins outs ord : List Nat} {eqs : List EqR} {ms : List MemR} (U : UnitH H so u N n ins outs ord eqs ms) (hNH : N < H.length) (he : e ≤ H.length) {IV ORD : AV}
    (hO : LstV 22 1 ORD (ord.map natV)) :
    ∀ (d i : Nat), d + i = ord.length → ∀ (fu : Nat), d < fu → ∀ (cs : List AV), RegH cs n → ∀ r : RG,
    (r.a.a.a = .ptr so 0 ∧ r.a.f.g = ORD ∧ r.a.f.h = .int .i64 (ord.length : Int) ∧ r.a.g.a = .int .i64 (i : Int)) →
    ∃ r', loopN (q17_15 (orc CC M)) fu r [] ⟨setF H N (.cells cs), e⟩ = some (.exit 2, r', [], ⟨setF H N (.cells (ordT eqs (ord.drop i) cs)), e⟩) ∧ r'.a.a.a = .ptr so 0 := by
  intro d
  induction d with
  | zero =>
    intro i hi fu hfu cs hr r ⟨h0, h46, h47, h48⟩
    obtain ⟨fu', rfl⟩ : ∃ f, fu = f + 1 := ⟨fu - 1, by omega⟩
    have : i = ord.length := by omega
    subst this
    have hc : decide ((ord.length : Int) < (ord.length : Int)) = false := by simp
    rw [List.drop_length]
    simp only [loopN, q17_15, q17_11, SIM, ST0, ST1, h47, h48, hc]
    exact ⟨_, rfl, h0⟩
  | succ d ih =>
    intro i hi fu hfu cs hr r ⟨h0, h46, h47, h48⟩
    obtain ⟨fu', rfl⟩ : ∃ f, fu = f + 1 := ⟨fu - 1, by omega⟩
    have hlt : i < ord.length := by omega
    have hsm := U.sm
    have hc : decide ((i : Int) < (ord.length : Int)) = true := by simp; omega
    have hd : ord.drop i = ord[i] :: ord.drop (i + 1) := List.drop_eq_getElem_cons hlt
    have hg : ord[i]? = some ord[i] := by simp [hlt]
    have ho := U.ordo _ (List.getElem_mem hlt)
    generalize ord[i] = k at hd hg ho
    have hat := hO.at_ i (natV k) (by rw [getF_eq, List.getElem?_map, hg]; rfl)
    have ha : addF (i : Int) 1 = ((i + 1 : Nat) : Int) := addF_i i 1 (by unfold natMax; omega)
    obtain ⟨ORD', hso, _⟩ := U.hs
    obtain ⟨uc, IV', OV, EV, _, _, hu, _, _, _, _, h5, hq, _⟩ := U.hu
    have hk : eqs[k]? = some eqs[k] := by simp [ho]
    have q := U.eq _ (List.getElem_mem ho)
    generalize eqs[k] = Q at hk q
    have hlen : (setF H N (.cells cs)).length = H.length := by rw [setF_eq, List.length_set]
    obtain ⟨o, hNo⟩ : ∃ o, getF H N = some o := ⟨H[N], by rw [getF_eq]; simp [hNH]⟩
    have hso' : getF (setF H N (.cells cs)) so = some (.cells [.ptr u 0, .rsl N 0 n n 1, ORD']) := by rw [getF_setne U.ne.1, hso]
    have hu' : getF (setF H N (.cells cs)) u = some (.cells uc) := by rw [getF_setne U.ne.2, hu]
    obtain ⟨y, hy⟩ := q.opn (Q.ats.map (valS cs)) (by rw [List.length_map])
    have heq := eq_ok hM.h35 hM.h36 hM.h61 hM.h62 (n := n) hu' (getF_set hNo (.cells cs)) h5 (hq k Q hk) (q.to (by rw [hlen]; exact Nat.le_refl _) hr) (y := y) (fun _ => hy)
    have hT : eqS cs Q.op Q.dst Q.ats Q.gs y = eqT cs Q := by unfold eqT; rw [hy]; rfl
    rw [hT, setF_ss, lenF_eq, hlen] at heq
    have hmin : min e H.length = e := Nat.min_eq_left he
    have hdT : ordT eqs (ord.drop i) cs = ordT eqs (ord.drop (i + 1)) (eqT cs Q) := by
      rw [hd]
      unfold ordT
      rw [List.foldl_cons, hk]
    rw [hdT]
    simp only [loopN, q17_15, q17_11, q17_12, q17_13, q17_14, SIM, ST0, ST1, h0, h46, h47, h48, hc, hat, hso', heq, hmin, ha, Nat.reduceAdd, Nat.reduceLeDiff]
    exact ih (i + 1) (by omega) fu' (by omega) (eqT cs Q) (hr.eqT Q) _ ⟨by first | rfl | exact h0, by first | rfl | exact h46, by first | rfl | exact h47, rfl⟩
end Go.Proofs
set_option maxRecDepth 100000
namespace Go.Proofs
open Go Go.Abs

theorem len_rsl (N k : Nat) : lenV CC 32 (.rsl N 0 k k 1) = some (.int .i64 (k : Int)) := by
  have : CC.P.underlying 32 = some (.slice 2) := by kernel_rfl
  rw [lenV_eq]; simp [lenAV, this]
noncomputable def insT : List Nat → List Int → List AV → List AV
  | [], _, cs => cs
  | i :: r, xs, cs => insT r xs.tail (setF cs i (.int .i64 (xs.headD 0)))
theorem RegH.insT {n : Nat} : ∀ {ins : List Nat} {xs : List Int} {cs : List AV}, RegH cs n → RegH (insT ins xs cs) n
  | [], _, _, h => h
  | i :: r, xs, cs, h => RegH.insT (ins := r) (h.set i _)
theorem RegH.ordT {n : Nat} {eqs : List EqR} : ∀ {ord : List Nat} {cs : List AV}, RegH cs n → RegH (ordT eqs ord cs) n
  | [], _, h => h
  | i :: r, cs, h => by
    unfold Proofs.ordT
    rw [List.foldl_cons]
    cases eqs[i]? with
    | none => exact RegH.ordT (ord := r) h
    | some q => exact RegH.ordT (ord := r) (h.eqT q)

theorem in_loop {M : Memo} (hM : SoloM M) {H : Heap} {so u N n e pi : Nat} {ins outs ord : List Nat} {eqs : List EqR} {ms : List MemR} (U : UnitH H so u N n ins outs ord eqs ms) (hNH : N < H.length) (he : e ≤ H.length) {IV : AV}
    (hI : LstV 22 1 IV (ins.map natV)) {xs : List Int} (hpi : getF H pi = some (.cells (xs.map (.int .i64 ·)))) (hpN : pi ≠ N) (hxs : xs.length < 1000) :
    ∀ (d i : Nat), d + i = ins.length → ∀ (fu : Nat), d < fu → ∀ (cs : List AV), RegH cs n → ∀ r : RG,
    (r.a.a.a = .ptr so 0 ∧ r.a.a.b = .rsl pi 0 xs.length xs.length 1 ∧ r.a.c.e = IV ∧ r.a.c.f = .int .i64 (ins.length : Int) ∧ r.a.c.g = .int .i64 (i : Int)) →
    ∃ r', loopN (q17_9 (orc CC M)) fu r [] ⟨setF H N (.cells cs), e⟩ = some (.exit 0, r', [], ⟨setF H N (.cells (insT (ins.drop i) (xs.drop i) cs)), e⟩) ∧ r'.a.a.a = .ptr so 0 := by
  intro d
  induction d with
  | zero =>
    intro i hi fu hfu cs hr r ⟨h0, hx1, h46, h47, h48⟩
    obtain ⟨fu', rfl⟩ : ∃ f, fu = f + 1 := ⟨fu - 1, by omega⟩
    have : i = ins.length := by omega
    subst this
    have hc : decide ((ins.length : Int) < (ins.length : Int)) = false := by simp
    rw [List.drop_length]
    simp only [loopN, q17_9, q17_2, SIM, ST0, ST1, h47, h48, hc, insT]
    exact ⟨_, rfl, h0⟩
  | succ d ih =>
    intro i hi fu hfu cs hr r ⟨h0, hx1, h46, h47, h48⟩
    obtain ⟨fu', rfl⟩ : ∃ f, fu = f + 1 := ⟨fu - 1, by omega⟩
    have hlt : i < ins.length := by omega
    have hsm := U.sm
    have hc : decide ((i : Int) < (ins.length : Int)) = true := by simp; omega
    have hd : ins.drop i = ins[i] :: ins.drop (i + 1) := List.drop_eq_getElem_cons hlt
    have hg : ins[i]? = some ins[i] := by simp [hlt]
    have ho := U.ino _ (List.getElem_mem hlt)
    generalize ins[i] = k at hd hg ho
    have hat := hI.at_ i (natV k) (by rw [getF_eq, List.getElem?_map, hg]; rfl)
    have ha : addF (i : Int) 1 = ((i + 1 : Nat) : Int) := addF_i i 1 (by unfold natMax; omega)
    obtain ⟨ORD', hso, _⟩ := U.hs
    obtain ⟨uc, IV', OV, EV, _, _, hu, _⟩ := U.hu
    have hlen : (setF H N (.cells cs)).length = H.length := by rw [setF_eq, List.length_set]
    obtain ⟨o, hNo⟩ : ∃ o, getF H N = some o := ⟨H[N], by rw [getF_eq]; simp [hNH]⟩
    have hso' : getF (setF H N (.cells cs)) so = some (.cells [.ptr u 0, .rsl N 0 n n 1, ORD']) := by rw [getF_setne U.ne.1, hso]
    have hpi' : getF (setF H N (.cells cs)) pi = some (.cells (xs.map (.int .i64 ·))) := by rw [getF_setne hpN, hpi]
    have hset := set_ok hM.h34 (H := setF H N (.cells cs)) (u := u) (n := n) (by rw [hlen]; exact getF_lt hu) (getF_set hNo (.cells cs)) (i := k) ((xs.drop i).headD 0) ho (by rw [hr.1]; exact ho)
    rw [setF_ss, lenF_eq, hlen] at hset
    have hmin : min e H.length = e := Nat.min_eq_left he
    have hT : insT (ins.drop i) (xs.drop i) cs = insT (ins.drop (i + 1)) (xs.drop (i + 1)) (setF cs k (.int .i64 ((xs.drop i).headD 0))) := by
      rw [hd, insT, List.tail_drop]
    rw [hT]
    have key := ih (i + 1) (by omega) fu' (by omega) (setF cs k (.int .i64 ((xs.drop i).headD 0))) (hr.set k _)
    have hlx := len_rsl pi xs.length
    by_cases hx : i < xs.length
    · have hc2 : decide ((i : Int) < (xs.length : Int)) = true := by simp; omega
      have hv : (xs.drop i).headD 0 = xs[i] := by rw [List.drop_eq_getElem_cons hx]; rfl
      have hgx : getF (xs.map (AV.int .i64 ·)) i = some (.int .i64 xs[i]) := by rw [getF_eq, List.getElem?_map, List.getElem?_eq_getElem hx]; rfl
      have hirx := ias_r (N := pi) hx
      rw [hv] at hset key ⊢
      simp only [loopN, q17_9, q17_2, q17_3, q17_4, q17_5, q17_6, q17_7, q17_8, SIM, ST0, ST1, h0, hx1, h46, h47, h48, hc, hc2, hat, hlx, hirx, hpi', hgx, hso', hset, hmin, ha, Nat.reduceAdd, Nat.reduceLeDiff]
      exact key _ ⟨by first | rfl | exact h0, by first | rfl | exact hx1, by first | rfl | exact h46, by first | rfl | exact h47, rfl⟩
    · have hc2 : decide ((i : Int) < (xs.length : Int)) = false := by simp; omega
      have hv : (xs.drop i).headD 0 = 0 := by rw [List.drop_eq_nil_of_le (by omega)]; rfl
      rw [hv] at hset key ⊢
      simp only [loopN, q17_9, q17_2, q17_3, q17_4, q17_5, q17_6, q17_7, q17_8, SIM, ST0, ST1, h0, hx1, h46, h47, h48, hc, hc2, hat, hlx, hso', hset, hmin, ha, Nat.reduceAdd, Nat.reduceLeDiff]
      exact key _ ⟨by first | rfl | exact h0, by first | rfl | exact hx1, by first | rfl | exact h46, by first | rfl | exact h47, rfl⟩
end Go.Proofs
set_option maxRecDepth 100000
namespace Go.Proofs
open Go Go.Abs

theorem bt93 (i : Nat) : buildAV CC 93 [(2, natV i)] = some (atV false 0 i) := by kernel_rfl
theorem keep17 : CC.keep 17 = false := by kernel_rfl
theorem out_loop {M : Memo} (hM : SoloM M) {P : Heap} {so u N n e : Nat} {outs : List Nat} {cs ORD' : List AV} {V : AV} (hV : LstV 22 1 V (outs.map natV)) (hl : outs.length < 1000) (ho : ∀ i ∈ outs, i < n) (hr : RegH cs n)
    (hso : ∃ ORD, getF P so = some (.cells [.ptr u 0, .rsl N 0 n n 1, ORD])) (hu : u < P.length) (hN : getF P N = some (.cells cs)) (he : e ≤ P.length) :
    ∀ (d i : Nat), d + i = outs.length → ∀ (fu : Nat), d < fu → ∀ (Hc : Heap), (∃ L, Hc = P ++ L) → ∀ r : RG,
    (r.a.a.a = .ptr so 0 ∧ r.b.a.c = V ∧ r.b.a.d = .int .i64 (outs.length : Int) ∧ r.b.a.e = .int .i64 (i : Int) ∧ ArgI P Hc r.a.b.c ((outs.take i).map (numAt cs))) →
    EndL (.exit 4) (fun r' => r'.a.a.a = .ptr so 0 ∧ (outs ≠ [] → ∃ id g, P.length ≤ id ∧ r'.a.b.c = intsV (outs.map (numAt cs)) (.live id g))) P e (loopN (q17_22 (orc CC M)) fu r [] ⟨Hc, e⟩) := by
  intro d
  induction d with
  | zero =>
    intro i hi fu hfu Hc hP r ⟨h0, h66, h67, h68, hA⟩
    obtain ⟨fu', rfl⟩ : ∃ f, fu = f + 1 := ⟨fu - 1, by omega⟩
    obtain ⟨L, rfl⟩ := hP
    have : i = outs.length := by omega
    subst this
    have hc : decide ((outs.length : Int) < (outs.length : Int)) = false := by simp
    simp only [loopN, q17_22, q17_18, SIM, ST0, ST2, h67, h68, hc]
    refine .with ⟨h0, fun hne => ?_⟩
    rw [List.take_length] at hA
    rcases hA with ⟨h, _⟩ | ⟨_, id, g, h, _, h'⟩
    · simp at h; exact absurd h hne
    · exact ⟨_, _, h', h⟩
  | succ d ih =>
    intro i hi fu hfu Hc hP r ⟨h0, h66, h67, h68, hA⟩
    obtain ⟨fu', rfl⟩ : ∃ f, fu = f + 1 := ⟨fu - 1, by omega⟩
    have hlt : i < outs.length := by omega
    have hc : decide ((i : Int) < (outs.length : Int)) = true := by simp; omega
    have hg : outs[i]? = some outs[i] := by simp [hlt]
    have htk : (outs.take (i + 1)).map (numAt cs) = (outs.take i).map (numAt cs) ++ [numAt cs outs[i]] := by
      rw [List.take_add_one, hg, List.map_append]; rfl
    have hmem := ho outs[i] (List.getElem_mem hlt)
    generalize outs[i] = k at hg htk hmem
    have hat := hV.at_ i (natV k) (by rw [getF_eq, List.getElem?_map, hg]; rfl)
    have ha : addF (i : Int) 1 = ((i + 1 : Nat) : Int) := addF_i i 1 (by unfold natMax; omega)
    obtain ⟨L, rfl⟩ := hP
    obtain ⟨ORD, hso⟩ := hso
    have hsc := getF_old hso L
    have hNc := getF_old hN L
    have huc : u < (P ++ L).length := by rw [List.length_append]; omega
    have hec : e ≤ lenF (P ++ L) := by rw [lenF_eq, List.length_append]; omega
    have hgt : ∀ (id : Nat), P.length ≤ id → ∀ v, ∃ K, setF (P ++ L) id v = P ++ K := fun id hid v => ⟨_, setF_ge hid v⟩
    have hnew : ∀ K, ∃ K', P ++ L ++ K = P ++ K' := fun K => ⟨L ++ K, by rw [List.append_assoc]⟩
    have hPl : P.length ≤ (P ++ L).length := by rw [List.length_append]; omega
    have ih' := fun Hc (hP : ∃ L, Hc = P ++ L) => ih (i + 1) (by omega) fu' (by omega) Hc hP
    rw [htk] at ih'
    generalize P ++ L = Hc at *
    obtain ⟨x, hx⟩ := hr.2 k hmem
    have hnum : numAt cs k = x := by unfold numAt; rw [hx]
    have hget := get_v hM.h36 huc hNc (n := n) 0 hmem hx
    have hbt := bt93 k
    have hmin : min e (lenF Hc) = e := Nat.min_eq_left hec
    rw [hnum] at ih'
    rcases hA with ⟨h1, h5⟩ | ⟨h1, id, g, h5, hid, hPid⟩
    · have happ := fun hp e => app_nil32 mut17 x hp e
      rw [h1] at ih'
      have key := ih' (Hc ++ [.lin 0]) (hnew _)
      simp only [loopN, q17_22, q17_18, q17_19, q17_20, q17_21, SIM, ST0, ST2, h0, h5, h66, h67, h68, hc, hat, hsc, hbt, hget, hmin, bsl32, happ, ha, Nat.reduceAdd, Nat.reduceLeDiff]
      refine key _ ⟨by first | rfl | exact h0, by first | rfl | exact h66, by first | rfl | exact h67, rfl, .inr ⟨by simp, lenF Hc, 0, rfl, ?_, ?_⟩⟩
      · rw [getF_app0]; rfl
      · rw [lenF_eq]; omega
    · have hlen : (((outs.take i).map (numAt cs)).map (AV.int .i64 ·)).length + 1 ≤ 2 ^ 24 := by
        rw [List.length_map, List.length_map, List.length_take]; omega
      have happ : ∀ e, appendAV CC 17 32 (intsV ((outs.take i).map (numAt cs)) (.live id g)) (.sl 1 [.int .i64 x] .lit) ⟨Hc, e⟩ =
          some (intsV ((outs.take i).map (numAt cs) ++ [x]) (.live id (g + 1)), ⟨setF Hc id (.lin (g + 1)), e⟩) := by
        intro e
        rw [intsV, app_live32 17 x hid hlen]
        simp [intsV]
      obtain ⟨K, hK⟩ := hgt id hPid (.lin (g + 1))
      have key := ih' (setF Hc id (.lin (g + 1))) ⟨K, hK⟩
      simp only [loopN, q17_22, q17_18, q17_19, q17_20, q17_21, SIM, ST0, ST2, h0, h5, h66, h67, h68, hc, hat, hsc, hbt, hget, hmin, bsl32, happ, ha, Nat.reduceAdd, Nat.reduceLeDiff]
      exact key _ ⟨by first | rfl | exact h0, by first | rfl | exact h66, by first | rfl | exact h67, rfl, .inr ⟨by simp, id, g + 1, rfl, getF_set hid _, hPid⟩⟩
theorem noNL_ints (l : List Int) : noNL (l.map (AV.int .i64 ·)) = true := by
  induction l with
  | nil => rfl
  | cons x l ih => rw [List.map_cons, noNL_cons, ih]; rfl

/-- the places behind an instant's equations, and what goes out; the places ahead of the next instant -/
noncomputable def midT (ins ord : List Nat) (eqs : List EqR) (xs : List Int) (cs : List AV) : List AV := ordT eqs ord (insT ins xs cs)

theorem step_ok {M : Memo} (h17 : ∀ a, M 17 a = none) (hM : SoloM M) {H : Heap} {so u N n pi : Nat} {ins outs ord : List Nat} {eqs : List EqR} {ms : List MemR} (U : UnitH H so u N n ins outs ord eqs ms) {cs : List AV} (hN : getF H N = some (.cells cs)) (hr : RegH cs n) (hne : outs ≠ [])
    {xs : List Int} (hpi : getF H pi = some (.cells (xs.map (.int .i64 ·)))) (hpN : pi ≠ N) (hxs : xs.length < 1000) :
    orc CC M 17 [.ptr so 0, .rsl pi 0 xs.length xs.length 1] H = some (.ret (intsV (outs.map (numAt (midT ins ord eqs xs cs))) .dead) (setF H N (.cells (keepC (midT ins ord eqs xs cs) ms ms.length))) (lenF H)) := by
  refine begin_ (z := z17) (h17 _) (by kernel_rfl) rfl ?_
  have e0 : (envOf [.ptr so 0, .rsl pi 0 xs.length xs.length 1] 0 env0).a.a.a = .ptr so 0 := rfl
  have e1 : (envOf [.ptr so 0, .rsl pi 0 xs.length xs.length 1] 0 env0).a.a.b = .rsl pi 0 xs.length xs.length 1 := rfl
  generalize envOf [.ptr so 0, .rsl pi 0 xs.length xs.length 1] 0 env0 = R at e0 e1
  have hNH := getF_lt hN
  obtain ⟨ORD, hso, hO⟩ := U.hs
  obtain ⟨uc, IV, OV, EV, qm, mc, hu, h3, hI, h4, hOut, h5, hq, h6, hqm, hqmN, hMem⟩ := U.hu
  have hsm := U.sm
  have hlI : lenV CC 22 IV = some (.int .i64 (ins.length : Int)) := by rw [hI.len, List.length_map]
  have hlO : lenV CC 22 ORD = some (.int .i64 (ord.length : Int)) := by rw [hO.len, List.length_map]
  have hlV : lenV CC 22 OV = some (.int .i64 (outs.length : Int)) := by rw [hOut.len, List.length_map]
  -- what comes in
  have lp1 := in_loop hM U hNH (e := lenF H) (by rw [lenF_eq]; omega) hI hpi hpN hxs ins.length 0 rfl 100000 (by omega) cs hr
  rw [setF_self hN, List.drop_zero, List.drop_zero] at lp1
  obtain ⟨f1, hf1⟩ := sk lp1
  have hr1 : RegH (insT ins xs cs) n := hr.insT
  have lp2 := ord_loop hM U hNH (e := lenF H) (by rw [lenF_eq]; omega) (IV := IV) hO ord.length 0 rfl 100000 (by omega) (insT ins xs cs) hr1
  rw [List.drop_zero] at lp2
  obtain ⟨f2, hf2⟩ := sk lp2
  have hr2 : RegH (midT ins ord eqs xs cs) n := hr1.ordT
  have hset : ∀ c : List AV, getF (setF H N (.cells c)) so = some (.cells [.ptr u 0, .rsl N 0 n n 1, ORD]) ∧ getF (setF H N (.cells c)) u = some (.cells uc) ∧ getF (setF H N (.cells c)) N = some (.cells c) ∧ (setF H N (.cells c)).length = H.length := fun c =>
    ⟨by rw [getF_setne U.ne.1, hso], by rw [getF_setne U.ne.2, hu], getF_set hN _, by rw [setF_eq, List.length_set]⟩
  obtain ⟨r0, hr0, hpre⟩ : ∃ r, (r.a.a.a = .ptr so 0 ∧ r.a.a.b = .rsl pi 0 xs.length xs.length 1 ∧ r.a.c.e = IV ∧ r.a.c.f = .int .i64 (ins.length : Int) ∧ r.a.c.g = .int .i64 ((0 : Nat) : Int)) ∧ z17.sh (orc CC M) R [] ⟨H, lenF H⟩ =
      seqK (seqZ (seqZ (q17_10 (orc CC M)) (blkZ 2 (loopZ (q17_15 (orc CC M))))) (seqZ (q17_16 (orc CC M)) (seqZ (seqZ (q17_17 (orc CC M)) (blkZ 4 (loopZ (q17_22 (orc CC M))))) (seqZ (q17_23 (orc CC M)) (seqZ (q17_24 (orc CC M)) retZ))))) (blkK 0 (loopN (q17_9 (orc CC M)) 100000 r [] ⟨H, lenF H⟩)) := by
    simp only [z17, q17_0, q17_1, SIM, ST0, e0, e1, hso, hu, h3, hlI, Nat.reduceAdd, Nat.reduceLeDiff]
    exact ⟨_, ⟨rfl, rfl, rfl, rfl, rfl⟩, rfl⟩
  rw [hpre]
  obtain ⟨g1, k1⟩ := hf1 r0 hr0
  rw [g1]
  generalize f1 r0 = r1 at k1
  have s1 := hset (insT ins xs cs)
  obtain ⟨r2, hr2', hpre2⟩ : ∃ r, (r.a.a.a = .ptr so 0 ∧ r.a.f.g = ORD ∧ r.a.f.h = .int .i64 (ord.length : Int) ∧ r.a.g.a = .int .i64 ((0 : Nat) : Int)) ∧
      seqK (seqZ (seqZ (q17_10 (orc CC M)) (blkZ 2 (loopZ (q17_15 (orc CC M))))) (seqZ (q17_16 (orc CC M)) (seqZ (seqZ (q17_17 (orc CC M)) (blkZ 4 (loopZ (q17_22 (orc CC M))))) (seqZ (q17_23 (orc CC M)) (seqZ (q17_24 (orc CC M)) retZ))))) (blkK 0 (some (.exit 0, r1, [], ⟨setF H N (.cells (insT ins xs cs)), lenF H⟩))) =
      seqK (seqZ (q17_16 (orc CC M)) (seqZ (seqZ (q17_17 (orc CC M)) (blkZ 4 (loopZ (q17_22 (orc CC M))))) (seqZ (q17_23 (orc CC M)) (seqZ (q17_24 (orc CC M)) retZ)))) (blkK 2 (loopN (q17_15 (orc CC M)) 100000 r [] ⟨setF H N (.cells (insT ins xs cs)), lenF H⟩)) := by
    simp only [q17_10, SIM, ST0, ST1, k1, s1.1, hlO, Nat.reduceAdd, Nat.reduceLeDiff]
    exact ⟨_, ⟨by first | rfl | exact k1, rfl, rfl, rfl⟩, rfl⟩
  rw [hpre2]
  obtain ⟨g2, k2⟩ := hf2 r2 hr2'
  rw [g2]
  generalize f2 r2 = r3 at k2
  have hmid : ordT eqs ord (insT ins xs cs) = midT ins ord eqs xs cs := rfl
  rw [hmid]
  have s2 := hset (midT ins ord eqs xs cs)
  have lp3 := out_loop hM (P := setF H N (.cells (midT ins ord eqs xs cs))) (so := so) (u := u) (N := N) (n := n) (e := lenF H) (ORD' := []) hOut hsm.2.1 U.outo hr2 ⟨_, s2.1⟩ (getF_lt s2.2.1) s2.2.2.1 (by rw [s2.2.2.2, lenF_eq]; exact Nat.le_refl _) outs.length 0 rfl 100000 (by omega) (setF H N (.cells (midT ins ord eqs xs cs))) ⟨[], by rw [List.append_nil]⟩
  obtain ⟨f3, hf3⟩ := sk lp3
  obtain ⟨r4, hr4, hpre3⟩ : ∃ r, (r.a.a.a = .ptr so 0 ∧ r.b.a.c = OV ∧ r.b.a.d = .int .i64 (outs.length : Int) ∧ r.b.a.e = .int .i64 ((0 : Nat) : Int) ∧ r.a.b.c = .nils) ∧
      seqK (seqZ (q17_16 (orc CC M)) (seqZ (seqZ (q17_17 (orc CC M)) (blkZ 4 (loopZ (q17_22 (orc CC M))))) (seqZ (q17_23 (orc CC M)) (seqZ (q17_24 (orc CC M)) retZ)))) (blkK 2 (some (.exit 2, r3, [], ⟨setF H N (.cells (midT ins ord eqs xs cs)), lenF H⟩))) =
      seqK (seqZ (q17_23 (orc CC M)) (seqZ (q17_24 (orc CC M)) retZ)) (blkK 4 (loopN (q17_22 (orc CC M)) 100000 r [] ⟨setF H N (.cells (midT ins ord eqs xs cs)), lenF H⟩)) := by
    simp only [q17_16, q17_17, SIM, ST0, ST1, ST2, k2, s2.1, s2.2.1, h4, hlV, Nat.reduceAdd, Nat.reduceLeDiff]
    exact ⟨_, ⟨by first | rfl | exact k2, rfl, rfl, rfl, rfl⟩, rfl⟩
  rw [hpre3]
  obtain ⟨L, g3, k3, k4⟩ := hf3 r4 ⟨hr4.1, hr4.2.1, hr4.2.2.1, hr4.2.2.2.1, .inl ⟨rfl, hr4.2.2.2.2⟩⟩
  rw [g3]
  obtain ⟨id, gg, hid, k5⟩ := k4 hne
  generalize f3 r4 = r5 at k3 k5
  have hkeep := keep_ok hM.h37 hM.h36 hM.h61 (H := setF H N (.cells (midT ins ord eqs xs cs)) ++ L) (u := u) (N := N) (n := n) (getF_old s2.2.1 L) (getF_old s2.2.2.1 L) h6 (getF_old (by rw [getF_setne hqmN, hqm]) L) hqmN hMem hsm.2.2.2 (fun m hm => (U.mem m hm).to (by rw [List.length_append, s2.2.2.2]; omega) hr2)
  rw [setF_old s2.2.2.1, setF_ss] at hkeep
  have hmin : min (lenF H) (lenF (setF H N (.cells (midT ins ord eqs xs cs)) ++ L)) = lenF H := by
    rw [lenF_eq, lenF_eq, List.length_append, s2.2.2.2]
    exact Nat.min_eq_left (by omega)
  have hso5 := getF_old s2.1 L
  have hgc := fun hp => gc_live1 (sz := 1) (l := (outs.map (numAt (midT ins ord eqs xs cs))).map (AV.int .i64 ·)) (id := id) (g := gg) (base := lenF H) (hp := hp) (noNL_ints _) (by rw [lenF_eq, ← s2.2.2.2]; exact hid)
  simp only [z17, q17_23, q17_24, SIM, ST0, k3, k5, hso5, hkeep, hmin, keep17, hgc, takeF_s, Nat.reduceAdd, Nat.reduceLeDiff]
end Go.Proofs
