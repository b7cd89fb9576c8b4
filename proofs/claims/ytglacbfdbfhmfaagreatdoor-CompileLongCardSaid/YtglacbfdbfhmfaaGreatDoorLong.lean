/- the law. Part of the proof of girandolelaw19.CompileLong. -/
import Derived.Test.YtglacbfdbfhmfaaGreatDoorPar
set_option linter.unusedVariables false
set_option linter.unusedSimpArgs false
set_option maxRecDepth 1000000
namespace Go.Proofs
open Go Go.Abs
theorem memo1_par : ParKM (memoL memo1) := { memo1_fresh with par := parM_of (by decide) }
theorem r_awake19 : callK CC (memoL memo1) (tget tab) kPar 3000 23 [] [] = some (.ret (.bool true) [] 0) := by kernel_rfl
def m_aw19 : List (FuncId × List AV × AV) := (23, [], .bool true) :: memo1
theorem m_aw19_ok : MemoOk CC (memoL m_aw19) := memo_cons cc_goodF cc_scal memo1_ok memo1_ok rfl (by kernel_rfl) (orc_callK cc_mask tabT (kPar_ok memo1_par) r_awake19)
end Go.Proofs
set_option maxRecDepth 100000
namespace Go.Proofs
open Go Go.Abs

def textL : List Nat := [110,111,100,101,32,102,40,120,58,32,105,110,116,41,32,114,101,116,117,114,110,115,32,40,121,58,32,105,110,116,41,32,108,101,116,32,121,32,61,32,120,32,43,32,49,59,32,116,101,108]
def toksL : List TkR := [⟨3, 0, [110,111,100,101], 0, 0, 4⟩, ⟨1, 5, [102], 0, 0, 6⟩, ⟨4, 6, [40], 0, 0, 7⟩, ⟨1, 7, [120], 0, 0, 8⟩, ⟨4, 8, [58], 0, 0, 9⟩, ⟨3, 10, [105,110,116], 0, 0, 13⟩, ⟨4, 13, [41], 0, 0, 14⟩, ⟨3, 15, [114,101,116,117,114,110,115], 0, 0, 22⟩, ⟨4, 23, [40], 0, 0, 24⟩, ⟨1, 24, [121], 0, 0, 25⟩, ⟨4, 25, [58], 0, 0, 26⟩, ⟨3, 27, [105,110,116], 0, 0, 30⟩, ⟨4, 30, [41], 0, 0, 31⟩, ⟨3, 32, [108,101,116], 0, 0, 35⟩, ⟨1, 36, [121], 0, 0, 37⟩, ⟨4, 38, [61], 0, 0, 39⟩, ⟨1, 40, [120], 0, 0, 41⟩, ⟨4, 42, [43], 0, 0, 43⟩, ⟨2, 44, [49], 1, 0, 45⟩, ⟨4, 45, [59], 0, 0, 46⟩, ⟨3, 47, [116,101,108], 0, 0, 50⟩]
theorem len_tl : textL.length = 50 := by decide

section
variable (R : List Nat)
theorem nx0 : nextT wordsS signsS (textL ++ 32 :: R) (blJ (textL ++ 32 :: R) (blJ (textL ++ 32 :: R) 0)) = ⟨3, 0, [110,111,100,101], 0, 0, 4⟩ := by kernel_rfl
theorem nx1 : nextT wordsS signsS (textL ++ 32 :: R) (blJ (textL ++ 32 :: R) (blJ (textL ++ 32 :: R) 4)) = ⟨1, 5, [102], 0, 0, 6⟩ := by kernel_rfl
theorem nx2 : nextT wordsS signsS (textL ++ 32 :: R) (blJ (textL ++ 32 :: R) (blJ (textL ++ 32 :: R) 6)) = ⟨4, 6, [40], 0, 0, 7⟩ := by kernel_rfl
theorem nx3 : nextT wordsS signsS (textL ++ 32 :: R) (blJ (textL ++ 32 :: R) (blJ (textL ++ 32 :: R) 7)) = ⟨1, 7, [120], 0, 0, 8⟩ := by kernel_rfl
theorem nx4 : nextT wordsS signsS (textL ++ 32 :: R) (blJ (textL ++ 32 :: R) (blJ (textL ++ 32 :: R) 8)) = ⟨4, 8, [58], 0, 0, 9⟩ := by kernel_rfl
theorem nx5 : nextT wordsS signsS (textL ++ 32 :: R) (blJ (textL ++ 32 :: R) (blJ (textL ++ 32 :: R) 9)) = ⟨3, 10, [105,110,116], 0, 0, 13⟩ := by kernel_rfl
theorem nx6 : nextT wordsS signsS (textL ++ 32 :: R) (blJ (textL ++ 32 :: R) (blJ (textL ++ 32 :: R) 13)) = ⟨4, 13, [41], 0, 0, 14⟩ := by kernel_rfl
theorem nx7 : nextT wordsS signsS (textL ++ 32 :: R) (blJ (textL ++ 32 :: R) (blJ (textL ++ 32 :: R) 14)) = ⟨3, 15, [114,101,116,117,114,110,115], 0, 0, 22⟩ := by kernel_rfl
theorem nx8 : nextT wordsS signsS (textL ++ 32 :: R) (blJ (textL ++ 32 :: R) (blJ (textL ++ 32 :: R) 22)) = ⟨4, 23, [40], 0, 0, 24⟩ := by kernel_rfl
theorem nx9 : nextT wordsS signsS (textL ++ 32 :: R) (blJ (textL ++ 32 :: R) (blJ (textL ++ 32 :: R) 24)) = ⟨1, 24, [121], 0, 0, 25⟩ := by kernel_rfl
theorem nx10 : nextT wordsS signsS (textL ++ 32 :: R) (blJ (textL ++ 32 :: R) (blJ (textL ++ 32 :: R) 25)) = ⟨4, 25, [58], 0, 0, 26⟩ := by kernel_rfl
theorem nx11 : nextT wordsS signsS (textL ++ 32 :: R) (blJ (textL ++ 32 :: R) (blJ (textL ++ 32 :: R) 26)) = ⟨3, 27, [105,110,116], 0, 0, 30⟩ := by kernel_rfl
theorem nx12 : nextT wordsS signsS (textL ++ 32 :: R) (blJ (textL ++ 32 :: R) (blJ (textL ++ 32 :: R) 30)) = ⟨4, 30, [41], 0, 0, 31⟩ := by kernel_rfl
theorem nx13 : nextT wordsS signsS (textL ++ 32 :: R) (blJ (textL ++ 32 :: R) (blJ (textL ++ 32 :: R) 31)) = ⟨3, 32, [108,101,116], 0, 0, 35⟩ := by kernel_rfl
theorem nx14 : nextT wordsS signsS (textL ++ 32 :: R) (blJ (textL ++ 32 :: R) (blJ (textL ++ 32 :: R) 35)) = ⟨1, 36, [121], 0, 0, 37⟩ := by kernel_rfl
theorem nx15 : nextT wordsS signsS (textL ++ 32 :: R) (blJ (textL ++ 32 :: R) (blJ (textL ++ 32 :: R) 37)) = ⟨4, 38, [61], 0, 0, 39⟩ := by kernel_rfl
theorem nx16 : nextT wordsS signsS (textL ++ 32 :: R) (blJ (textL ++ 32 :: R) (blJ (textL ++ 32 :: R) 39)) = ⟨1, 40, [120], 0, 0, 41⟩ := by kernel_rfl
theorem nx17 : nextT wordsS signsS (textL ++ 32 :: R) (blJ (textL ++ 32 :: R) (blJ (textL ++ 32 :: R) 41)) = ⟨4, 42, [43], 0, 0, 43⟩ := by kernel_rfl
theorem nx18 : nextT wordsS signsS (textL ++ 32 :: R) (blJ (textL ++ 32 :: R) (blJ (textL ++ 32 :: R) 43)) = ⟨2, 44, [49], 1, 0, 45⟩ := by kernel_rfl
theorem nx19 : nextT wordsS signsS (textL ++ 32 :: R) (blJ (textL ++ 32 :: R) (blJ (textL ++ 32 :: R) 45)) = ⟨4, 45, [59], 0, 0, 46⟩ := by kernel_rfl
theorem nx20 : nextT wordsS signsS (textL ++ 32 :: R) (blJ (textL ++ 32 :: R) (blJ (textL ++ 32 :: R) 46)) = ⟨3, 47, [116,101,108], 0, 0, 50⟩ := by kernel_rfl
end

theorem bl_all : ∀ (d m : Nat), m ≤ d → blS d (List.replicate m 32) = m
  | 0, m, h => by have : m = 0 := by omega
                  subst this; rfl
  | d + 1, 0, h => rfl
  | d + 1, m + 1, h => by
    rw [List.replicate_succ]
    simp only [blS, show isBl 32 = true from rfl, cond_true, bl_all d m (by omega)]
    omega

theorem nx_end (m : Nat) : nextT wordsS signsS (textL ++ 32 :: List.replicate m 32) (blJ (textL ++ 32 :: List.replicate m 32) (blJ (textL ++ 32 :: List.replicate m 32) 50)) = ⟨5, 51 + m, [], 0, 0, 51 + m⟩ := by
  have hlen : (textL ++ 32 :: List.replicate m 32).length = 51 + m := by rw [List.length_append, len_tl]; simp; omega
  have hd : (textL ++ 32 :: List.replicate m 32).drop 50 = List.replicate (m + 1) 32 := by
    have := len_tl
    rw [List.drop_append, ← this, List.drop_length, Nat.sub_self, List.drop_zero, List.nil_append, List.replicate_succ]
  have h1 : blJ (textL ++ 32 :: List.replicate m 32) 50 = 51 + m := by
    unfold blJ
    rw [hlen, hd, bl_all _ _ (by omega)]
    omega
  have h2 : blJ (textL ++ 32 :: List.replicate m 32) (51 + m) = 51 + m := by
    unfold blJ
    rw [hlen, Nat.sub_self]
    rfl
  rw [h1, h2]
  unfold nextT
  rw [← hlen, List.drop_length]

theorem all_long (m : Nat) : allT wordsS signsS (textL ++ 32 :: List.replicate m 32) 22 0 = some (.ok (toksL ++ [⟨5, 51 + m, [], 0, 0, 51 + m⟩])) := by
  simp only [allT, nx0, nx1, nx2, nx3, nx4, nx5, nx6, nx7, nx8, nx9, nx10, nx11, nx12, nx13, nx14, nx15, nx16, nx17, nx18, nx19, nx20, nx_end, show ∀ a b : Nat, Nat.beq a b = decide (a = b) from nbeq, cond_true, cond_false, decide_true, decide_false, Nat.reduceEqDiff, eq_self, decide_true, decide_false, dect, decf, toksL, List.cons_append, List.nil_append]
end Go.Proofs
set_option maxRecDepth 1000000
namespace Go.Proofs
open Go Go.Abs

theorem fin_mono {f b : Nat} {z : FZ} {X Y : IRes} {r : CRes} (h : ∀ x, X = some x → Y = some x) (hx : finZ CC f b z X = some r) : finZ CC f b z Y = some r := by
  cases hX : X with
  | none => rw [hX] at hx; cases hx
  | some x => rw [h x hX, ← hX]; exact hx

noncomputable section
def sndC : IC → IC
  | .seq _ b => b
  | c => c
def bodyC (f D : Nat) : IC := match cFunc CC f D with
  | some fi => fi.body
  | none => .skip
def rest27 (rec : RecT) : CZ := (seqZ (seqZ (q27_2 rec) (condZ (.t 15) (seqZ (q27_3 rec) retZ) skipZ)) (seqZ (q27_4 rec) (seqZ (q27_5 rec) (seqZ (q27_6 rec) retZ))))
def rest14 (rec : RecT) : CZ := (seqZ (seqZ (q14_3 rec) (condZ (.t 11) (seqZ (q14_4 rec) retZ) skipZ)) (seqZ (q14_5 rec) retZ))
def rest24 (rec : RecT) : CZ := (seqZ (seqZ (q24_2 rec) (condZ (.t 15) (seqZ (q24_3 rec) retZ) skipZ)) (seqZ (q24_4 rec) (seqZ (seqZ (q24_5 rec) (condZ (.t 24) (seqZ (q24_6 rec) retZ) skipZ)) (seqZ (q24_7 rec) retZ))))
def rest9 (rec : RecT) : CZ := (seqZ (seqZ (q9_9 rec) (condZ (.t 26) (seqZ (q9_10 rec) retZ) skipZ)) (seqZ (q9_11 rec) retZ))
theorem r27_eq (rec : RecT) : codeI CC rec 27 (sndC (sndC (bodyC 27 16744192))) = rest27 rec := by kernel_rfl
theorem r14_eq (rec : RecT) : codeI CC rec 14 (sndC (sndC (sndC (bodyC 14 30656)))) = rest14 rec := by kernel_rfl
theorem r24_eq (rec : RecT) : codeI CC rec 24 (sndC (sndC (bodyC 24 520060672))) = rest24 rec := by kernel_rfl
theorem r9_eq (rec : RecT) : codeI CC rec 9 (sndC (sndC (sndC (sndC (sndC (sndC (bodyC 9 2198956080784))))))) = rest9 rec := by kernel_rfl
end
theorem r27_mono {rec rec' : RecT} (h : RLe rec rec') {r ds s} : ∀ x, rest27 rec r ds s = some x → rest27 rec' r ds s = some x := fun x hx => by rw [← r27_eq] at hx ⊢; exact codeI_mono h _ _ _ _ _ hx
theorem r14_mono {rec rec' : RecT} (h : RLe rec rec') {r ds s} : ∀ x, rest14 rec r ds s = some x → rest14 rec' r ds s = some x := fun x hx => by rw [← r14_eq] at hx ⊢; exact codeI_mono h _ _ _ _ _ hx
theorem r24_mono {rec rec' : RecT} (h : RLe rec rec') {r ds s} : ∀ x, rest24 rec r ds s = some x → rest24 rec' r ds s = some x := fun x hx => by rw [← r24_eq] at hx ⊢; exact codeI_mono h _ _ _ _ _ hx
theorem r9_mono {rec rec' : RecT} (h : RLe rec rec') {r ds s} : ∀ x, rest9 rec r ds s = some x → rest9 rec' r ds s = some x := fun x hx => by rw [← r9_eq] at hx ⊢; exact codeI_mono h _ _ _ _ _ hx
theorem seqK_mono2 {b b' : CZ} {x : IRes} (hb : ∀ r ds s z, b r ds s = some z → b' r ds s = some z) : ∀ z, seqK b x = some z → seqK b' x = some z := fun z hz => seqK_mono (fun r ds s z h => hb r ds s z h) (fun _ h => h) hz

noncomputable section
def recL : RecT := callK CC (memoL m_aw19) (tget tab) kPar 3000
abbrev ML : Memo := memoL m_aw19
def vlex (r : Except (Nat × Nat) (List TkR)) : AV := allV r []
def constR (r : CRes) : RecT := fun _ _ _ => some r
def c0 : AObj := .cells [.int .i64 0, .int .i64 0]
def rgR (x : IRes) : RG := match x with
  | some (_, r, _, _) => r
  | none => env0
def stR (x : IRes) : St := match x with
  | some (_, _, _, s) => s
  | none => ⟨[], 0⟩
def hpR (x : Option CRes) : Heap := match x with
  | some (.ret _ h _) => h
  | _ => []
def vR (x : Option CRes) : AV := match x with
  | some (.ret v _ _) => v
  | _ => .top
def fv27 : AV := .func (.func 28) [] [.ptr 2 0]
def H3 : Heap := [c0, c0, .cells [.nils]]
def E27 (s : List Nat) : RG := envOf [.str s, fv27] 0 env0
/-- behind the text's words -/
def fin27 (s : List Nat) (v : AV) (H : Heap) : Option CRes := finZ CC 27 3 z27 (seqK (rest27 recL) (q27_1 (constR (.ret v H 5)) (rgR (q27_0 recL (E27 s) [] ⟨H3, 3⟩)) [] (stR (q27_0 recL (E27 s) [] ⟨H3, 3⟩))))
def H5 : Heap := [c0, c0, .cells [.nils], .cells [fv27], c0]
theorem a27 (rec : RecT) (s : List Nat) : q27_0 rec (E27 s) [] ⟨H3, 3⟩ = some (.normal, rgR (q27_0 recL (E27 s) [] ⟨H3, 3⟩), [], ⟨H5, 3⟩) := by kernel_rfl
theorem b27 (s : List Nat) : (rgR (q27_0 recL (E27 s) [] ⟨H3, 3⟩)).a.a.a = .str s ∧ stR (q27_0 recL (E27 s) [] ⟨H3, 3⟩) = ⟨H5, 3⟩ := ⟨by kernel_rfl, by kernel_rfl⟩
end

theorem hleL : RLe recL (orc CC ML) := callK_ok cc_mask tabT (kPar_ok { lx := { m72 := fun _ => rfl, m73 := fun _ => rfl, m104 := fun _ => rfl, m105 := fun _ => rfl, m106 := fun _ => rfl, m107 := fun _ => rfl, m108 := fun _ => rfl, m109 := fun _ => rfl, m110 := fun _ => rfl, m140 := fun _ => rfl, m141 := fun _ => rfl, m142 := fun _ => rfl, m143 := fun _ => rfl, m144 := fun _ => rfl, w := rfl, wl := by decide, s := rfl, sl := by decide }, m30 := fun _ => rfl, m53 := fun _ => rfl, m74 := fun _ => rfl, m49 := fun _ => rfl, m50 := fun _ => rfl, par := parM_of (by decide) }) 3000
theorem lxL : LexM ML (wordsS.map .str) (signsS.map .str) := { m72 := fun _ => rfl, m73 := fun _ => rfl, m104 := fun _ => rfl, m105 := fun _ => rfl, m106 := fun _ => rfl, m107 := fun _ => rfl, m108 := fun _ => rfl, m109 := fun _ => rfl, m110 := fun _ => rfl, m140 := fun _ => rfl, m141 := fun _ => rfl, m142 := fun _ => rfl, m143 := fun _ => rfl, m144 := fun _ => rfl, w := rfl, wl := by decide, s := rfl, sl := by decide }

theorem run27 {s : List Nat} {v : AV} (hx : orc CC ML 45 [.str s] H5 = some (.ret v H5 5)) {r : CRes} (hf : fin27 s v H5 = some r) : orc CC ML 27 [.str s, fv27] H3 = some r := by
  refine begin_ (z := z27) rfl (by kernel_rfl) rfl ?_
  obtain ⟨b1, b2⟩ := b27 s
  refine fin_mono (X := seqK (rest27 recL) (q27_1 (constR (.ret v H5 5)) (rgR (q27_0 recL (E27 s) [] ⟨H3, 3⟩)) [] (stR (q27_0 recL (E27 s) [] ⟨H3, 3⟩)))) (fun x hx' => ?_) hf
  have hx2 := seqK_mono2 (b' := rest27 (orc CC ML)) (fun r ds s z h => r27_mono hleL z h) x hx'
  show seqK (seqZ (q27_1 (orc CC ML)) (rest27 (orc CC ML))) (q27_0 (orc CC ML) (E27 s) [] ⟨H3, 3⟩) = some x
  rw [a27, seqK_n]
  show seqK (rest27 (orc CC ML)) (q27_1 (orc CC ML) (rgR (q27_0 recL (E27 s) [] ⟨H3, 3⟩)) [] ⟨H5, 3⟩) = some x
  rw [← hx2, b2]
  congr 1
  simp only [q27_1, b1, hx, constR]
end Go.Proofs
set_option maxRecDepth 1000000
namespace Go.Proofs
open Go Go.Abs
noncomputable section
def nodesL : AV := (.sl 6 [(.agg [(.str [102]),(.int .i64 5),(.sl 6 [(.agg [(.str [120]),(.int .i64 7),(.bool false),(.bool false),(.str []),(.bool false)])] .dead),(.sl 6 [(.agg [(.str [121]),(.int .i64 24),(.bool false),(.bool false),(.str []),(.bool false)])] .dead),.nils,(.sl 8 [(.agg [(.sl 2 [(.agg [(.str [121]),(.int .i64 36)])] .dead),(.bool false),(.int .i64 6),(.int .i64 42),(.int .i64 0),(.str [43]),(.bool false),(.sl 6 [(.agg [(.int .i64 3),(.int .i64 40),(.int .i64 0),(.str [120]),(.bool false),.nils]),(.agg [(.int .i64 1),(.int .i64 44),(.int .i64 1),(.str []),(.bool false),.nils])] .lit)])] .dead)])] .dead)
def vA (N : Nat) : AV := allV (.ok (toksL ++ [⟨5, N, [], 0, 0, N⟩])) []
def vB : AV := .tuple [.nils, .agg [.int .i64 4000, .int .i64 3]]
def faultB : AV := .agg [.int .i64 4000, .int .i64 3]
def faultA : AV := .agg [.int .i64 0, .int .i64 0]
theorem f27A (s : List Nat) (N : Nat) : fin27 s (vA N) H5 = some (.ret faultA (hpR (fin27 s (vA N) H5)) 2) := by kernel_rfl
theorem f27B (s : List Nat) : fin27 s vB H5 = some (.ret faultB H3 3) := by kernel_rfl

def E14 (s : List Nat) : RG := envOf [.str s] 0 env0
def p14 (s : List Nat) : IRes := seqZ (q14_0 recL) (q14_1 recL) (E14 s) [] ⟨[c0], 1⟩
def fin14 (s : List Nat) (r : CRes) : Option CRes := finZ CC 14 1 z14 (seqK (rest14 recL) (q14_2 (constR r) (rgR (p14 s)) [] ⟨H3, 1⟩))
theorem a14 (rec : RecT) (s : List Nat) : seqZ (q14_0 rec) (q14_1 rec) (E14 s) [] ⟨[c0], 1⟩ = some (.normal, rgR (p14 s), [], ⟨H3, 1⟩) := by kernel_rfl
theorem b14 (s : List Nat) : (rgR (p14 s)).a.a.a = .str s ∧ (rgR (p14 s)).a.a.e = .ptr 2 0 := ⟨by kernel_rfl, by kernel_rfl⟩
theorem f14A (s : List Nat) (N : Nat) : fin14 s (.ret faultA (hpR (fin27 s (vA N) H5)) 2) = some (.ret (.tuple [nodesL, faultA]) [c0] 1) := by kernel_rfl
theorem f14B (s : List Nat) : fin14 s (.ret faultB H3 3) = some (.ret (.tuple [.nils, faultB]) [c0] 1) := by kernel_rfl

def E24 (s : List Nat) : RG := envOf [.str s] 0 env0
def p24 (s : List Nat) : IRes := q24_0 recL (E24 s) [] ⟨[], 0⟩
def fin24 (s : List Nat) (r : CRes) : Option CRes := finZ CC 24 0 z24 (seqK (rest24 recL) (q24_1 (constR r) (rgR (p24 s)) [] ⟨[c0], 0⟩))
theorem a24 (rec : RecT) (s : List Nat) : q24_0 rec (E24 s) [] ⟨[], 0⟩ = some (.normal, rgR (p24 s), [], ⟨[c0], 0⟩) := by kernel_rfl
theorem b24 (s : List Nat) : (rgR (p24 s)).a.a.a = .str s := by kernel_rfl
def esR (x : Option CRes) : Nat := match x with
  | some (.ret _ _ e) => e
  | _ => 0
def ptrR (x : Option CRes) : Nat := match x with
  | some (.ret (.tuple [_, .ptr n _, _]) _ _) => n
  | _ => 0
theorem f24A (s : List Nat) : fin24 s (.ret (.tuple [nodesL, faultA]) [c0] 1) = some (.ret (.tuple [nodesL, .ptr (ptrR (fin24 s (.ret (.tuple [nodesL, faultA]) [c0] 1))) 0, faultA]) (hpR (fin24 s (.ret (.tuple [nodesL, faultA]) [c0] 1))) (esR (fin24 s (.ret (.tuple [nodesL, faultA]) [c0] 1)))) := by kernel_rfl
theorem f24B (s : List Nat) : fin24 s (.ret (.tuple [.nils, faultB]) [c0] 1) = some (.ret (.tuple [.nils, .nilp, faultB]) [] 0) := by kernel_rfl
end

theorem run14 {s : List Nat} {r14 r27 : CRes} (h27 : orc CC ML 27 [.str s, fv27] H3 = some r27) (hf : fin14 s r27 = some r14) : orc CC ML 14 [.str s] [c0] = some r14 := by
  refine begin_ (z := z14) rfl (by kernel_rfl) rfl ?_
  obtain ⟨b1, b2⟩ := b14 s
  refine fin_mono (X := seqK (rest14 recL) (q14_2 (constR r27) (rgR (p14 s)) [] ⟨H3, 1⟩)) (fun x hx' => ?_) hf
  have hx2 := seqK_mono2 (b' := rest14 (orc CC ML)) (fun r ds s z h => r14_mono hleL z h) x hx'
  have hs : z14.sh (orc CC ML) = seqZ (seqZ (q14_0 (orc CC ML)) (q14_1 (orc CC ML))) (seqZ (q14_2 (orc CC ML)) (rest14 (orc CC ML))) := by
    funext r ds s
    simp only [z14, rest14, seqZ]
    cases q14_0 (orc CC ML) r ds s with
    | none => rfl
    | some x => obtain ⟨e, r1, ds1, s1⟩ := x; cases e <;> rfl
  rw [hs]
  show seqK (seqZ (q14_2 (orc CC ML)) (rest14 (orc CC ML))) (seqZ (q14_0 (orc CC ML)) (q14_1 (orc CC ML)) (E14 s) [] ⟨[c0], 1⟩) = some x
  rw [a14, seqK_n]
  show seqK (rest14 (orc CC ML)) (q14_2 (orc CC ML) (rgR (p14 s)) [] ⟨H3, 1⟩) = some x
  rw [← hx2]
  congr 1
  have hfv : AV.func (.func 28) [] [.ptr 2 0] = fv27 := rfl
  simp only [q14_2, b1, b2, hfv, h27, constR]

theorem run24 {s : List Nat} {r14 r24 : CRes} (h14 : orc CC ML 14 [.str s] [c0] = some r14) (hf : fin24 s r14 = some r24) : orc CC ML 24 [.str s] [] = some r24 := by
  refine begin_ (z := z24) rfl (by kernel_rfl) rfl ?_
  have b1 := b24 s
  refine fin_mono (X := seqK (rest24 recL) (q24_1 (constR r14) (rgR (p24 s)) [] ⟨[c0], 0⟩)) (fun x hx' => ?_) hf
  have hx2 := seqK_mono2 (b' := rest24 (orc CC ML)) (fun r ds s z h => r24_mono hleL z h) x hx'
  show seqK (seqZ (q24_1 (orc CC ML)) (rest24 (orc CC ML))) (q24_0 (orc CC ML) (E24 s) [] ⟨[], 0⟩) = some x
  rw [a24, seqK_n]
  show seqK (rest24 (orc CC ML)) (q24_1 (orc CC ML) (rgR (p24 s)) [] ⟨[c0], 0⟩) = some x
  rw [← hx2]
  congr 1
  simp only [q24_1, b1, h14, constR]
end Go.Proofs
set_option maxRecDepth 1000000
namespace Go.Proofs
open Go Go.Abs

/-- what the number becomes -/
theorem num300 (n : Int) : ∃ k : Nat, k < 300 ∧ oB (binV CC .and 3 true (.int .i64 n) (.int .i64 65535)) (fun v0 => binV CC .rem 3 true v0 (.int .i64 300)) = some (.int .i64 ((k : Nat) : Int)) := by
  let m := (BitVec.ofInt IntKind.i64.bits n &&& BitVec.ofInt IntKind.i64.bits 65535).toNat
  have hm : m ≤ 65535 := by
    show (BitVec.ofInt IntKind.i64.bits n &&& BitVec.ofInt IntKind.i64.bits 65535).toNat ≤ 65535
    rw [BitVec.toNat_and]
    exact Nat.le_trans Nat.and_le_right (by decide)
  have hw : IntKind.wrap .i64 (m : Int) = (m : Int) := wrap_nat (by unfold natMax; omega)
  refine ⟨m % 300, by omega, ?_⟩
  have h1 : binV CC .and 3 true (.int .i64 n) (.int .i64 65535) = some (.int .i64 (m : Int)) := by
    show binOpAV CC .and 3 (.int .i64 n) (.int .i64 65535) = _
    simp only [binOpAV, intOpAV, if_true]
    exact congrArg (fun x => some (AV.int .i64 x)) hw
  have h2 : binV CC .rem 3 true (.int .i64 (m : Int)) (.int .i64 300) = some (.int .i64 ((m % 300 : Nat) : Int)) := by
    show binOpAV CC .rem 3 (.int .i64 (m : Int)) (.int .i64 300) = _
    simp only [binOpAV, intOpAV, if_true]
    rw [if_neg (by decide)]
    rfl
  rw [h1, oB_s, h2]

theorem cat_9 {a b : List Nat} (h : a.length + b.length < 2 ^ 62) : binV CC .add 9 true (.str a) (.str b) = some (.str (a ++ b)) := by
  show binOpAV CC .add 9 (.str a) (.str b) = _
  simp only [binOpAV, strOpAV]
  rw [if_pos h]

def txtL (i : Nat) : List Nat := textL ++ List.replicate i 32
theorem txtL_len (i : Nat) : (txtL i).length = 50 + i := by unfold txtL; rw [List.length_append, len_tl, List.length_replicate]
theorem txtL_succ (i : Nat) : txtL i ++ [32] = txtL (i + 1) := by
  unfold txtL
  rw [List.append_assoc, ← List.replicate_succ']

theorem grow_loop {M : Memo} (N : Nat) (hN : N < 5000) : ∀ (d i : Nat), d + i = N → ∀ (fu : Nat), d < fu → ∀ (r : RG), (r.a.a.a = .int .i64 ((50 + N : Nat) : Int) ∧ r.a.a.d = .str (txtL i)) →
    ∃ r', loopN (q9_7 (orc CC M)) fu r [] ⟨[], 0⟩ = some (.exit 0, r', [], ⟨[], 0⟩) ∧ r'.a.a.a = .int .i64 ((50 + N : Nat) : Int) ∧ r'.a.a.d = .str (txtL N) := by
  intro d
  induction d with
  | zero =>
    intro i hi fu hfu r hr
    obtain ⟨fu', rfl⟩ : ∃ f, fu = f + 1 := ⟨fu - 1, by omega⟩
    obtain ⟨h0, h3⟩ := hr
    have hi' : i = N := by omega
    subst hi'
    have hc : decide (((50 + i : Nat) : Int) < ((50 + i : Nat) : Int)) = false := by simp
    simp only [loopN, q9_7, q9_5, q9_6, SIM, ST0, ST1, h0, h3, len_str, txtL_len, hc]
    refine ⟨_, rfl, ?_, ?_⟩
    · first | rfl | exact h0
    · first | rfl | exact h3
  | succ d ih =>
    intro i hi fu hfu r hr
    obtain ⟨fu', rfl⟩ : ∃ f, fu = f + 1 := ⟨fu - 1, by omega⟩
    obtain ⟨h0, h3⟩ := hr
    have hc : decide (((50 + i : Nat) : Int) < ((50 + N : Nat) : Int)) = true := by simp; omega
    have hcat : binV CC .add 9 true (.str (txtL i)) (.str [32]) = some (.str (txtL (i + 1))) := by
      rw [cat_9 (by rw [txtL_len]; show 50 + i + 1 < _; omega), txtL_succ]
    simp only [loopN, q9_7, q9_5, q9_6, SIM, ST0, ST1, h0, h3, len_str, txtL_len, hc, hcat]
    refine ih (i + 1) (by omega) fu' (by omega) _ ⟨?_, ?_⟩
    · first | rfl | exact h0
    · rfl

theorem txt_cons (m : Nat) : txtL (m + 1) = textL ++ 32 :: List.replicate m 32 := by unfold txtL; rw [List.replicate_succ]
theorem txt_byte (i : Nat) : ∀ b ∈ txtL i, b < 256 := by
  intro b hb
  unfold txtL at hb
  rcases List.mem_append.1 hb with h | h
  · exact (show ∀ b ∈ textL, b < 256 by decide) b h
  · have := List.eq_of_mem_replicate h
    omega

/-- the compiler at a text that is not too long -/
theorem comp_short {m : Nat} (hm : 51 + m ≤ 4000) : ∃ p h e, orc CC ML 24 [.str (txtL (m + 1))] [] = some (.ret (.tuple [nodesL, .ptr p 0, faultA]) h e) := by
  have hlex := lex_ok (M := ML) lxL (s := txtL (m + 1)) rfl (by rw [txtL_len]; omega) (txt_byte _) (k := 22) (by decide) (by rw [txt_cons]; exact all_long m) H5
  have h27 := run27 (s := txtL (m + 1)) (v := vA (51 + m)) hlex (f27A _ _)
  have h14 := run14 h27 (f14A _ _)
  exact ⟨_, _, _, run24 h14 (f24A _)⟩

/-- and at one that is -/
theorem comp_long {m : Nat} (hm : 4000 < 51 + m) : orc CC ML 24 [.str (txtL (m + 1))] [] = some (.ret (.tuple [.nils, .nilp, faultB]) [] 0) := by
  have hlex := lex_long (M := ML) (s := txtL (m + 1)) rfl (by rw [txtL_len]; omega) H5
  have h27 := run27 (s := txtL (m + 1)) (v := vB) hlex (f27B _)
  have h14 := run14 h27 (f14B _)
  exact run24 h14 (f24B _)

theorem ext3_0 (a b c : AV) : extV (.tuple [a, b, c]) 0 = some a := rfl
theorem ext3_1 (a b c : AV) : extV (.tuple [a, b, c]) 1 = some b := rfl
theorem ext3_2 (a b c : AV) : extV (.tuple [a, b, c]) 2 = some c := rfl
theorem nq_p (p : Nat) : binV CC .neq 51 true (.ptr p 0) .nilp = some (.bool true) := by kernel_rfl
theorem eq_n : binV CC .eql 51 true .nilp .nilp = some (.bool true) := by kernel_rfl
theorem ft_0 : buildAV CC 29 [] = some (.agg [.int .i64 0, .int .i64 0]) := by kernel_rfl
theorem ft_1 : buildAV CC 29 [(0, .int .i64 4000), (1, .int .i64 3)] = some (.agg [.int .i64 4000, .int .i64 3]) := by kernel_rfl
theorem fe_0 : binV CC .eql 29 false (.agg [.int .i64 0, .int .i64 0]) (.agg [.int .i64 0, .int .i64 0]) = some (.bool true) := by kernel_rfl
theorem fe_1 : binV CC .eql 29 false (.agg [.int .i64 4000, .int .i64 3]) (.agg [.int .i64 4000, .int .i64 3]) = some (.bool true) := by kernel_rfl
theorem aw19 : memoL m_aw19 23 [] = some (.bool true) := rfl

theorem law9 (n : Int) : orc CC ML 9 [.int .i64 n] [] = some (.ret (.bool true) [] 0) := by
  refine begin_ (z := z9) rfl (by kernel_rfl) rfl ?_
  have e0 : (envOf [AV.int .i64 n] 0 env0).a.a.a = .int .i64 n := rfl
  generalize envOf [AV.int .i64 n] 0 env0 = R at e0
  obtain ⟨k, hk, hnum⟩ := num300 n
  obtain ⟨v, hv, hv2⟩ : ∃ v, binV CC .and 3 true (.int .i64 n) (.int .i64 65535) = some v ∧ binV CC .rem 3 true v (.int .i64 300) = some (.int .i64 (k : Int)) := by
    cases hb : binV CC .and 3 true (.int .i64 n) (.int .i64 65535) with
    | none => rw [hb] at hnum; cases hnum
    | some v => rw [hb, oB_s] at hnum; exact ⟨v, rfl, hnum⟩
  have hadd : addF 3850 (k : Int) = ((50 + (3799 + k + 1) : Nat) : Int) := by
    rw [show (3850 : Int) = ((3850 : Nat) : Int) from rfl, addF_i 3850 k (by unfold natMax; omega)]
    congr 1
    omega
  have h23 := orc_memo (C := CC) (h := []) aw19
  obtain ⟨f, hf⟩ := sk (grow_loop (M := ML) (3799 + k + 1) (by omega) (3799 + k + 1) 0 rfl 100000 (by omega))
  have pre : ∃ r, (r.a.a.a = .int .i64 ((50 + (3799 + k + 1) : Nat) : Int) ∧ r.a.a.d = .str (txtL 0)) ∧ z9.sh (orc CC ML) R [] ⟨[], lenF ([] : Heap)⟩ = seqK (seqZ (q9_8 (orc CC ML)) (rest9 (orc CC ML))) (blkK 0 (loopN (q9_7 (orc CC ML)) 100000 r [] ⟨[], 0⟩)) := by
    simp only [z9, q9_0, q9_1, q9_3, q9_4, SIM, ST0, ST1, e0, h23, hv, hv2, hadd, List.length_nil, Nat.zero_min, Nat.reduceAdd, Nat.reduceLeDiff]
    refine ⟨_, ?_, rfl⟩
    exact ⟨rfl, rfl⟩
  obtain ⟨r0, hr0, hpre⟩ := pre
  rw [hpre]
  obtain ⟨h1, h2, h3⟩ := hf r0 hr0
  rw [h1]
  generalize f r0 = r1 at h2 h3
  by_cases hs : 51 + (3799 + k) ≤ 4000
  · obtain ⟨p, h, e, h24⟩ := comp_short hs
    have hc : decide ((4000 : Int) < ((50 + (3799 + k + 1) : Nat) : Int)) = false := by simp; omega
    have hn := Nat.le_refl (lenF h)
    simp only [z9, rest9, q9_8, q9_9, q9_11, SIM, ST0, h2, h3, h24, ext3_0, ext3_1, ext3_2, hc, nq_p, ft_0, fe_0, faultA, Nat.zero_min, Nat.reduceAdd, Nat.reduceLeDiff]
  · have h24 := comp_long (m := 3799 + k) (by omega)
    have hc : decide ((4000 : Int) < ((50 + (3799 + k + 1) : Nat) : Int)) = true := by simp; omega
    simp only [z9, rest9, q9_8, q9_9, q9_10, SIM, ST0, h2, h3, h24, ext3_0, ext3_1, ext3_2, hc, eq_n, ft_1, fe_1, faultB, Nat.zero_min, Nat.reduceAdd, Nat.reduceLeDiff]
end Go.Proofs
