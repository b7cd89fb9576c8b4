/- the law, round by round. Part of the proof of girandolelaw11.SoloRows. -/
import Derived.Test.YtglacbfdbfhmfaaGreatDoorMemo
import Derived.Test.YtglacbfdbfhmfaaGreatDoorB2
set_option linter.unusedVariables false
set_option linter.unusedSimpArgs false
set_option maxRecDepth 1000000
namespace Go.Proofs
open Go.Abs
noncomputable section
/-- the row as it comes in: at most five numbers -/
def rowV (l : List Int) : AV := .sl 1 (l.map (.int .i64 ·)) .frz
def fst (l : List Int) : Int := match l with | a :: _ => a | [] => 0
def snd (l : List Int) : Int := match l with | _ :: b :: _ => b | _ => 0
/-- from behind the reading of the arguments up to the loop -/
def pre (rec : RecT) : CZ := seqZ (q4_5 rec) (seqZ (seqZ (q4_6 rec) (blkZ 0 (loopZ (q4_10 rec)))) (seqZ (q4_11 rec) (seqZ (q4_12 rec) (seqZ (seqZ (q4_13 rec) (condZ (.t 44) (seqZ (q4_14 rec) retZ) skipZ)) (seqZ (q4_15 rec)
  (seqZ (seqZ (q4_16 rec) (condZ (.t 47) (q4_17 rec) skipZ)) (seqZ (seqZ (q4_18 rec) (condZ (.t 53) (q4_19 rec) skipZ)) (q4_20 rec))))))))
/-- registers behind the reading of the arguments -/
def reg1 (l : List Int) (d : Int) : RG := st (st (st (st (envOf [rowV l, .int .i64 0] 0 env0) 4 (.bool false)) 15 (.bool false)) 0 (rowV l)) 1 (.int .i64 d)
def rgOf (x : IRes) : RG := match x with | some (_, r, _, _) => r | none => env0
def stOf (x : IRes) : St := match x with | some (_, _, _, s) => s | none => ⟨[], 0⟩
def hpOf (x : Option CRes) : Heap := match x with | some (.ret _ h _) => h | _ => []
def esOf (x : Option CRes) : Nat := match x with | some (.ret _ _ e) => e | _ => 0
def want (d i : Nat) (a b : Int) : Int := cond (Nat.ble d i) (addF a b) 7
end
end Go.Proofs
set_option maxRecDepth 1000000
namespace Go.Proofs
open Go.Abs
noncomputable section
/-- the row as it comes in: none is nil -/
def rowO (l : Option (List Int)) : AV := match l with
  | none => .nils
  | some l => .sl 1 (l.map (.int .i64 ·)) .frz
def fstO (l : Option (List Int)) : Int := match l with
  | some (a :: _) => a
  | _ => 0
def sndO (l : Option (List Int)) : Int := match l with
  | some (_ :: b :: _) => b
  | _ => 0
def regO (l : Option (List Int)) (d : Int) : RG := st (st (st (st (envOf [rowO l, .int .i64 0] 0 env0) 4 (.bool false)) 15 (.bool false)) 0 (rowO l)) 1 (.int .i64 d)
def cutO (l : Option (List Int)) : Option (List Int) := l.map (·.take 5)
end
end Go.Proofs
set_option maxRecDepth 100000
namespace Go.Proofs
open Go Go.Abs
theorem sr4_58_57 (r : RG) (v : AV) : (st r 58 v).a.h.b = r.a.h.b := rfl
theorem sr4_58_8 (r : RG) (v : AV) : (st r 58 v).a.b.a = r.a.b.a := rfl
theorem sr4_58_0 (r : RG) (v : AV) : (st r 58 v).a.a.a = r.a.a.a := rfl
theorem sr4_58_1 (r : RG) (v : AV) : (st r 58 v).a.a.b = r.a.a.b := rfl
theorem sr4_58_10 (r : RG) (v : AV) : (st r 58 v).a.b.c = r.a.b.c := rfl
theorem sr4_58_11 (r : RG) (v : AV) : (st r 58 v).a.b.d = r.a.b.d := rfl
theorem sr4_58_12 (r : RG) (v : AV) : (st r 58 v).a.b.e = r.a.b.e := rfl
theorem sr4_58_13 (r : RG) (v : AV) : (st r 58 v).a.b.f = r.a.b.f := rfl
theorem sr4_58_58 (r : RG) (v : AV) : (st r 58 v).a.h.c = v := rfl
theorem sr4_58_62 (r : RG) (v : AV) : (st r 58 v).a.h.g = r.a.h.g := rfl
theorem sr4_58_73 (r : RG) (v : AV) : (st r 58 v).b.b.b = r.b.b.b := rfl
theorem sr4_12_57 (r : RG) (v : AV) : (st r 12 v).a.h.b = r.a.h.b := rfl
theorem sr4_12_8 (r : RG) (v : AV) : (st r 12 v).a.b.a = r.a.b.a := rfl
theorem sr4_12_0 (r : RG) (v : AV) : (st r 12 v).a.a.a = r.a.a.a := rfl
theorem sr4_12_1 (r : RG) (v : AV) : (st r 12 v).a.a.b = r.a.a.b := rfl
theorem sr4_12_10 (r : RG) (v : AV) : (st r 12 v).a.b.c = r.a.b.c := rfl
theorem sr4_12_11 (r : RG) (v : AV) : (st r 12 v).a.b.d = r.a.b.d := rfl
theorem sr4_12_12 (r : RG) (v : AV) : (st r 12 v).a.b.e = v := rfl
theorem sr4_12_13 (r : RG) (v : AV) : (st r 12 v).a.b.f = r.a.b.f := rfl
theorem sr4_12_58 (r : RG) (v : AV) : (st r 12 v).a.h.c = r.a.h.c := rfl
theorem sr4_12_62 (r : RG) (v : AV) : (st r 12 v).a.h.g = r.a.h.g := rfl
theorem sr4_12_73 (r : RG) (v : AV) : (st r 12 v).b.b.b = r.b.b.b := rfl
theorem sr4_13_57 (r : RG) (v : AV) : (st r 13 v).a.h.b = r.a.h.b := rfl
theorem sr4_13_8 (r : RG) (v : AV) : (st r 13 v).a.b.a = r.a.b.a := rfl
theorem sr4_13_0 (r : RG) (v : AV) : (st r 13 v).a.a.a = r.a.a.a := rfl
theorem sr4_13_1 (r : RG) (v : AV) : (st r 13 v).a.a.b = r.a.a.b := rfl
theorem sr4_13_10 (r : RG) (v : AV) : (st r 13 v).a.b.c = r.a.b.c := rfl
theorem sr4_13_11 (r : RG) (v : AV) : (st r 13 v).a.b.d = r.a.b.d := rfl
theorem sr4_13_12 (r : RG) (v : AV) : (st r 13 v).a.b.e = r.a.b.e := rfl
theorem sr4_13_13 (r : RG) (v : AV) : (st r 13 v).a.b.f = v := rfl
theorem sr4_13_58 (r : RG) (v : AV) : (st r 13 v).a.h.c = r.a.h.c := rfl
theorem sr4_13_62 (r : RG) (v : AV) : (st r 13 v).a.h.g = r.a.h.g := rfl
theorem sr4_13_73 (r : RG) (v : AV) : (st r 13 v).b.b.b = r.b.b.b := rfl
theorem sr4_62_57 (r : RG) (v : AV) : (st r 62 v).a.h.b = r.a.h.b := rfl
theorem sr4_62_8 (r : RG) (v : AV) : (st r 62 v).a.b.a = r.a.b.a := rfl
theorem sr4_62_0 (r : RG) (v : AV) : (st r 62 v).a.a.a = r.a.a.a := rfl
theorem sr4_62_1 (r : RG) (v : AV) : (st r 62 v).a.a.b = r.a.a.b := rfl
theorem sr4_62_10 (r : RG) (v : AV) : (st r 62 v).a.b.c = r.a.b.c := rfl
theorem sr4_62_11 (r : RG) (v : AV) : (st r 62 v).a.b.d = r.a.b.d := rfl
theorem sr4_62_12 (r : RG) (v : AV) : (st r 62 v).a.b.e = r.a.b.e := rfl
theorem sr4_62_13 (r : RG) (v : AV) : (st r 62 v).a.b.f = r.a.b.f := rfl
theorem sr4_62_58 (r : RG) (v : AV) : (st r 62 v).a.h.c = r.a.h.c := rfl
theorem sr4_62_62 (r : RG) (v : AV) : (st r 62 v).a.h.g = v := rfl
theorem sr4_62_73 (r : RG) (v : AV) : (st r 62 v).b.b.b = r.b.b.b := rfl
theorem sr4_73_57 (r : RG) (v : AV) : (st r 73 v).a.h.b = r.a.h.b := rfl
theorem sr4_73_8 (r : RG) (v : AV) : (st r 73 v).a.b.a = r.a.b.a := rfl
theorem sr4_73_0 (r : RG) (v : AV) : (st r 73 v).a.a.a = r.a.a.a := rfl
theorem sr4_73_1 (r : RG) (v : AV) : (st r 73 v).a.a.b = r.a.a.b := rfl
theorem sr4_73_10 (r : RG) (v : AV) : (st r 73 v).a.b.c = r.a.b.c := rfl
theorem sr4_73_11 (r : RG) (v : AV) : (st r 73 v).a.b.d = r.a.b.d := rfl
theorem sr4_73_12 (r : RG) (v : AV) : (st r 73 v).a.b.e = r.a.b.e := rfl
theorem sr4_73_13 (r : RG) (v : AV) : (st r 73 v).a.b.f = r.a.b.f := rfl
theorem sr4_73_58 (r : RG) (v : AV) : (st r 73 v).a.h.c = r.a.h.c := rfl
theorem sr4_73_62 (r : RG) (v : AV) : (st r 73 v).a.h.g = r.a.h.g := rfl
theorem sr4_73_73 (r : RG) (v : AV) : (st r 73 v).b.b.b = v := rfl
theorem sr4_57_57 (r : RG) (v : AV) : (st r 57 v).a.h.b = v := rfl
theorem sr4_57_8 (r : RG) (v : AV) : (st r 57 v).a.b.a = r.a.b.a := rfl
theorem sr4_57_0 (r : RG) (v : AV) : (st r 57 v).a.a.a = r.a.a.a := rfl
theorem sr4_57_1 (r : RG) (v : AV) : (st r 57 v).a.a.b = r.a.a.b := rfl
theorem sr4_57_10 (r : RG) (v : AV) : (st r 57 v).a.b.c = r.a.b.c := rfl
theorem sr4_57_11 (r : RG) (v : AV) : (st r 57 v).a.b.d = r.a.b.d := rfl
theorem sr4_57_12 (r : RG) (v : AV) : (st r 57 v).a.b.e = r.a.b.e := rfl
theorem sr4_57_13 (r : RG) (v : AV) : (st r 57 v).a.b.f = r.a.b.f := rfl
theorem sr4_57_58 (r : RG) (v : AV) : (st r 57 v).a.h.c = r.a.h.c := rfl
theorem sr4_57_62 (r : RG) (v : AV) : (st r 57 v).a.h.g = r.a.h.g := rfl
theorem sr4_57_73 (r : RG) (v : AV) : (st r 57 v).b.b.b = r.b.b.b := rfl
theorem gx4_58 (r : RG) : gx ⟨r, []⟩ (.t 58) = r.a.h.c := rfl
theorem gx4_12 (r : RG) : gx ⟨r, []⟩ (.t 12) = r.a.b.e := rfl
theorem gx4_13 (r : RG) : gx ⟨r, []⟩ (.t 13) = r.a.b.f := rfl
theorem gx4_62 (r : RG) : gx ⟨r, []⟩ (.t 62) = r.a.h.g := rfl
theorem gx4_73 (r : RG) : gx ⟨r, []⟩ (.t 73) = r.b.b.b := rfl
theorem gx4_57 (r : RG) : gx ⟨r, []⟩ (.t 57) = r.a.h.b := rfl
theorem sr16_4_0 (r : RG) (v : AV) : (st r 4 v).a.a.a = r.a.a.a := rfl
theorem sr16_4_1 (r : RG) (v : AV) : (st r 4 v).a.a.b = r.a.a.b := rfl
theorem sr16_4_4 (r : RG) (v : AV) : (st r 4 v).a.a.e = v := rfl
theorem sr16_4_10 (r : RG) (v : AV) : (st r 4 v).a.b.c = r.a.b.c := rfl
theorem sr16_4_12 (r : RG) (v : AV) : (st r 4 v).a.b.e = r.a.b.e := rfl
theorem sr16_4_13 (r : RG) (v : AV) : (st r 4 v).a.b.f = r.a.b.f := rfl
theorem sr16_4_14 (r : RG) (v : AV) : (st r 4 v).a.b.g = r.a.b.g := rfl
theorem sr16_4_5 (r : RG) (v : AV) : (st r 4 v).a.a.f = r.a.a.f := rfl
theorem sr16_4_24 (r : RG) (v : AV) : (st r 4 v).a.d.a = r.a.d.a := rfl
theorem sr16_10_0 (r : RG) (v : AV) : (st r 10 v).a.a.a = r.a.a.a := rfl
theorem sr16_10_1 (r : RG) (v : AV) : (st r 10 v).a.a.b = r.a.a.b := rfl
theorem sr16_10_4 (r : RG) (v : AV) : (st r 10 v).a.a.e = r.a.a.e := rfl
theorem sr16_10_10 (r : RG) (v : AV) : (st r 10 v).a.b.c = v := rfl
theorem sr16_10_12 (r : RG) (v : AV) : (st r 10 v).a.b.e = r.a.b.e := rfl
theorem sr16_10_13 (r : RG) (v : AV) : (st r 10 v).a.b.f = r.a.b.f := rfl
theorem sr16_10_14 (r : RG) (v : AV) : (st r 10 v).a.b.g = r.a.b.g := rfl
theorem sr16_10_5 (r : RG) (v : AV) : (st r 10 v).a.a.f = r.a.a.f := rfl
theorem sr16_10_24 (r : RG) (v : AV) : (st r 10 v).a.d.a = r.a.d.a := rfl
theorem sr16_12_0 (r : RG) (v : AV) : (st r 12 v).a.a.a = r.a.a.a := rfl
theorem sr16_12_1 (r : RG) (v : AV) : (st r 12 v).a.a.b = r.a.a.b := rfl
theorem sr16_12_4 (r : RG) (v : AV) : (st r 12 v).a.a.e = r.a.a.e := rfl
theorem sr16_12_10 (r : RG) (v : AV) : (st r 12 v).a.b.c = r.a.b.c := rfl
theorem sr16_12_12 (r : RG) (v : AV) : (st r 12 v).a.b.e = v := rfl
theorem sr16_12_13 (r : RG) (v : AV) : (st r 12 v).a.b.f = r.a.b.f := rfl
theorem sr16_12_14 (r : RG) (v : AV) : (st r 12 v).a.b.g = r.a.b.g := rfl
theorem sr16_12_5 (r : RG) (v : AV) : (st r 12 v).a.a.f = r.a.a.f := rfl
theorem sr16_12_24 (r : RG) (v : AV) : (st r 12 v).a.d.a = r.a.d.a := rfl
theorem sr16_13_0 (r : RG) (v : AV) : (st r 13 v).a.a.a = r.a.a.a := rfl
theorem sr16_13_1 (r : RG) (v : AV) : (st r 13 v).a.a.b = r.a.a.b := rfl
theorem sr16_13_4 (r : RG) (v : AV) : (st r 13 v).a.a.e = r.a.a.e := rfl
theorem sr16_13_10 (r : RG) (v : AV) : (st r 13 v).a.b.c = r.a.b.c := rfl
theorem sr16_13_12 (r : RG) (v : AV) : (st r 13 v).a.b.e = r.a.b.e := rfl
theorem sr16_13_13 (r : RG) (v : AV) : (st r 13 v).a.b.f = v := rfl
theorem sr16_13_14 (r : RG) (v : AV) : (st r 13 v).a.b.g = r.a.b.g := rfl
theorem sr16_13_5 (r : RG) (v : AV) : (st r 13 v).a.a.f = r.a.a.f := rfl
theorem sr16_13_24 (r : RG) (v : AV) : (st r 13 v).a.d.a = r.a.d.a := rfl
theorem sr16_14_0 (r : RG) (v : AV) : (st r 14 v).a.a.a = r.a.a.a := rfl
theorem sr16_14_1 (r : RG) (v : AV) : (st r 14 v).a.a.b = r.a.a.b := rfl
theorem sr16_14_4 (r : RG) (v : AV) : (st r 14 v).a.a.e = r.a.a.e := rfl
theorem sr16_14_10 (r : RG) (v : AV) : (st r 14 v).a.b.c = r.a.b.c := rfl
theorem sr16_14_12 (r : RG) (v : AV) : (st r 14 v).a.b.e = r.a.b.e := rfl
theorem sr16_14_13 (r : RG) (v : AV) : (st r 14 v).a.b.f = r.a.b.f := rfl
theorem sr16_14_14 (r : RG) (v : AV) : (st r 14 v).a.b.g = v := rfl
theorem sr16_14_5 (r : RG) (v : AV) : (st r 14 v).a.a.f = r.a.a.f := rfl
theorem sr16_14_24 (r : RG) (v : AV) : (st r 14 v).a.d.a = r.a.d.a := rfl
theorem sr16_5_0 (r : RG) (v : AV) : (st r 5 v).a.a.a = r.a.a.a := rfl
theorem sr16_5_1 (r : RG) (v : AV) : (st r 5 v).a.a.b = r.a.a.b := rfl
theorem sr16_5_4 (r : RG) (v : AV) : (st r 5 v).a.a.e = r.a.a.e := rfl
theorem sr16_5_10 (r : RG) (v : AV) : (st r 5 v).a.b.c = r.a.b.c := rfl
theorem sr16_5_12 (r : RG) (v : AV) : (st r 5 v).a.b.e = r.a.b.e := rfl
theorem sr16_5_13 (r : RG) (v : AV) : (st r 5 v).a.b.f = r.a.b.f := rfl
theorem sr16_5_14 (r : RG) (v : AV) : (st r 5 v).a.b.g = r.a.b.g := rfl
theorem sr16_5_5 (r : RG) (v : AV) : (st r 5 v).a.a.f = v := rfl
theorem sr16_5_24 (r : RG) (v : AV) : (st r 5 v).a.d.a = r.a.d.a := rfl
theorem sr16_24_0 (r : RG) (v : AV) : (st r 24 v).a.a.a = r.a.a.a := rfl
theorem sr16_24_1 (r : RG) (v : AV) : (st r 24 v).a.a.b = r.a.a.b := rfl
theorem sr16_24_4 (r : RG) (v : AV) : (st r 24 v).a.a.e = r.a.a.e := rfl
theorem sr16_24_10 (r : RG) (v : AV) : (st r 24 v).a.b.c = r.a.b.c := rfl
theorem sr16_24_12 (r : RG) (v : AV) : (st r 24 v).a.b.e = r.a.b.e := rfl
theorem sr16_24_13 (r : RG) (v : AV) : (st r 24 v).a.b.f = r.a.b.f := rfl
theorem sr16_24_14 (r : RG) (v : AV) : (st r 24 v).a.b.g = r.a.b.g := rfl
theorem sr16_24_5 (r : RG) (v : AV) : (st r 24 v).a.a.f = r.a.a.f := rfl
theorem sr16_24_24 (r : RG) (v : AV) : (st r 24 v).a.d.a = v := rfl
theorem gx16_4 (r : RG) : gx ⟨r, []⟩ (.t 4) = r.a.a.e := rfl
theorem gx16_10 (r : RG) : gx ⟨r, []⟩ (.t 10) = r.a.b.c := rfl
theorem gx16_12 (r : RG) : gx ⟨r, []⟩ (.t 12) = r.a.b.e := rfl
theorem gx16_13 (r : RG) : gx ⟨r, []⟩ (.t 13) = r.a.b.f := rfl
theorem gx16_14 (r : RG) : gx ⟨r, []⟩ (.t 14) = r.a.b.g := rfl
theorem gx16_5 (r : RG) : gx ⟨r, []⟩ (.t 5) = r.a.a.f := rfl
theorem gx16_24 (r : RG) : gx ⟨r, []⟩ (.t 24) = r.a.d.a := rfl

theorem oB_s {α β : Type} (a : α) (k : α → Option β) : oB (some a) k = k a := rfl
theorem seqK_n (b : CZ) (r : RG) (ds : Dfs) (s : St) : seqK b (some (.normal, r, ds, s)) = b r ds s := rfl
theorem seqK_e (b : CZ) (i : Nat) (r : RG) (ds : Dfs) (s : St) : seqK b (some (.exit i, r, ds, s)) = some (.exit i, r, ds, s) := rfl
theorem seqK_r (b : CZ) (r : RG) (ds : Dfs) (s : St) : seqK b (some (.ret, r, ds, s)) = some (.ret, r, ds, s) := rfl
theorem condK_t (a b : IRes) : condK (.bool true) a b = a := rfl
theorem condK_f (a b : IRes) : condK (.bool false) a b = b := rfl
theorem blkK_n (i : Nat) (r : RG) (ds : Dfs) (s : St) : blkK i (some (.normal, r, ds, s)) = some (.normal, r, ds, s) := rfl
theorem blkK_r (i : Nat) (r : RG) (ds : Dfs) (s : St) : blkK i (some (.ret, r, ds, s)) = some (.ret, r, ds, s) := rfl
theorem blkK_e (i : Nat) (r : RG) (ds : Dfs) (s : St) : blkK i (some (.exit i, r, ds, s)) = some (.normal, r, ds, s) := by simp [blkK]
theorem lp0 (b : CZ) (r : RG) (ds : Dfs) (s : St) : loopN b 100000 r ds s = seqK (loopN b 99999) (b r ds s) := rfl
theorem lp1 (b : CZ) (r : RG) (ds : Dfs) (s : St) : loopN b 99999 r ds s = seqK (loopN b 99998) (b r ds s) := rfl
theorem lp2 (b : CZ) (r : RG) (ds : Dfs) (s : St) : loopN b 99998 r ds s = seqK (loopN b 99997) (b r ds s) := rfl
theorem e_lss (m n : Int) : zlssI (.int .i64 m) (.int .i64 n) = some (.bool (decide (m < n))) := by rw [← ltF_eq]; rfl
theorem e_geq (m n : Int) : zgeqI (.int .i64 m) (.int .i64 n) = some (.bool (!decide (m < n))) := by rw [← ltF_eq]; rfl
theorem e_neq (m n : Int) : zneqI (.int .i64 m) (.int .i64 n) = some (.bool (!decide (m = n))) := by rw [← eqF_eq]; rfl
theorem e_add (m n : Int) : zaddI (.int .i64 m) (.int .i64 n) = some (.int .i64 (addF m n)) := rfl
theorem e_len (sz : Nat) (es : List AV) (l : Lin) : lenV CC 32 (.sl sz es l) = some (.int .i64 es.length) := by
  have : CC.P.underlying 32 = some (.slice 2) := by kernel_rfl
  simp [lenV_eq, lenAV, this]

theorem same_ok (M : Memo) (hM : ∀ a, M 16 a = none) (x y : Int) (la lb : Lin) (h : Heap) :
    orc CC M 16 [.sl 1 [.int .i64 x, .int .i64 y] la, .sl 1 [.int .i64 x, .int .i64 y] lb] h = some (.ret (.int .i64 0) h h.length) := by
  refine orc_step cc_mask (T := tget tab) tab_ok (hM _) ?_
  have hT : tget tab 16 = some z16 := by kernel_rfl
  rw [hT]
  show cond (Nat.ble 2 512) (finZ CC 16 (lenF h) z16 (z16.sh (orc CC M) (envOf [.sl 1 [.int .i64 x, .int .i64 y] la, .sl 1 [.int .i64 x, .int .i64 y] lb] 0 env0) [] { heap := h, esc := lenF h })) none = _
  rw [lenF_eq]
  have e0 : (envOf [.sl 1 [.int .i64 x, .int .i64 y] la, .sl 1 [.int .i64 x, .int .i64 y] lb] 0 env0).a.a.a = .sl 1 [.int .i64 x, .int .i64 y] la := rfl
  have e1 : (envOf [.sl 1 [.int .i64 x, .int .i64 y] la, .sl 1 [.int .i64 x, .int .i64 y] lb] 0 env0).a.a.b = .sl 1 [.int .i64 x, .int .i64 y] lb := rfl
  generalize envOf [.sl 1 [.int .i64 x, .int .i64 y] la, .sl 1 [.int .i64 x, .int .i64 y] lb] 0 env0 = R at e0 e1
  have i0 : ∀ l, iasV 1 (.sl 1 [.int .i64 x, .int .i64 y] l) (.int .i64 0) = some (.iptr [.int .i64 x]) := fun _ => rfl
  have i1 : ∀ l, iasV 1 (.sl 1 [.int .i64 x, .int .i64 y] l) (.int .i64 1) = some (.iptr [.int .i64 y]) := fun _ => rfl
  have l0 : ∀ v, ldV none (.iptr [v]) h = some v := fun _ => rfl
  have a0 : addF 0 1 = 1 := by decide
  have a1 : addF 1 1 = 2 := by decide
  have hres : ∀ r : RG, resI r h [.t 4] = some [r.a.a.e] := fun _ => rfl
  have hb : Nat.ble 2 512 = true := rfl
  have hl2 : ((([AV.int .i64 x, AV.int .i64 y] : List AV).length : Nat) : Int) = 2 := rfl
  simp only [hb, cond_true, z16, finZ, hl2, seqZ, condZ, blkZ, skipZ, exitZ, retZ, loopZ, q16_0, q16_1, q16_2, q16_3, q16_4, q16_5, q16_6, q16_7, q16_8, q16_9, q16_10, oB_s, seqK_n, seqK_e, seqK_r, condK_t, condK_f, blkK_n, blkK_r, blkK_e, lp0, lp1, lp2,
    e_lss, e_neq, e_add, e_len, e0, e1, i0, i1, l0, a0, a1, decide_true, Bool.not_true, decide_false, Bool.not_false, List.append_nil, hres, finR, show decide ((0:Int) < 2) = true from rfl, show decide ((1:Int) < 2) = true from rfl, show decide ((2:Int) < 2) = false from rfl, sr16_4_0, sr16_4_1, sr16_4_4, sr16_4_10, sr16_4_12, sr16_4_13, sr16_4_14, sr16_4_5, sr16_4_24, sr16_10_0, sr16_10_1, sr16_10_4, sr16_10_10, sr16_10_12, sr16_10_13, sr16_10_14, sr16_10_5, sr16_10_24, sr16_12_0, sr16_12_1, sr16_12_4, sr16_12_10, sr16_12_12, sr16_12_13, sr16_12_14, sr16_12_5, sr16_12_24, sr16_13_0, sr16_13_1, sr16_13_4, sr16_13_10, sr16_13_12, sr16_13_13, sr16_13_14, sr16_13_5, sr16_13_24, sr16_14_0, sr16_14_1, sr16_14_4, sr16_14_10, sr16_14_12, sr16_14_13, sr16_14_14, sr16_14_5, sr16_14_24, sr16_5_0, sr16_5_1, sr16_5_4, sr16_5_10, sr16_5_12, sr16_5_13, sr16_5_14, sr16_5_5, sr16_5_24, sr16_24_0, sr16_24_1, sr16_24_4, sr16_24_10, sr16_24_12, sr16_24_13, sr16_24_14, sr16_24_5, sr16_24_24, gx16_4, gx16_10, gx16_12, gx16_13, gx16_14, gx16_5, gx16_24]
  have hbb : Nat.beq h.length h.length = true := Nat.beq_refl _
  simp [gcF, tupleAV, hbb, takeF_eq]
  rfl

/-- where the loop stands -/
structure Inv (P : AV) (H : Nat → Heap) (d : Nat) (l : Option (List Int)) (i : Nat) (r : RG) (s : St) : Prop where
  hi : r.a.h.b = .int .i64 i
  hp : r.a.b.a = P
  hr : r.a.a.a = rowO l
  hd : r.a.a.b = .int .i64 d
  ha : r.a.b.c = .int .i64 (fstO l)
  hb : r.a.b.d = .int .i64 (sndO l)
  hh : s.heap = H i
  he : s.esc = 0

theorem addF_nat (m n : Nat) (h : m + n ≤ natMax) : addF (m : Int) (n : Int) = ((m + n : Nat) : Int) := by
  rw [addF_eq]
  have := wrap_nat h
  simpa using this

theorem e_bsl (x y : Int) : bslV CC 32 2 [(0, .int .i64 x), (1, .int .i64 y)] = some (.sl 1 [.int .i64 x, .int .i64 y] .lit) := by kernel_rfl

theorem body_ok (M : Memo) (hM : ∀ a, M 16 a = none) {P : AV} {H : Nat → Heap} {d : Nat} {l : Option (List Int)} {i : Nat} (hi : i < 12) {e : Nat}
    (hstep : orc CC M 17 [P, rowO l] (H i) = some (.ret (.sl 1 [.int .i64 (want d i (fstO l) (sndO l)), .int .i64 (fstO l)] .dead) (H (i + 1)) e))
    {r : RG} {s : St} (hv : Inv P H d l i r s) : ∃ r' s', q4_29 (orc CC M) r [] s = some (.normal, r', [], s') ∧ Inv P H d l (i + 1) r' s' := by
  obtain ⟨s, esc⟩ := s
  obtain ⟨v1, v2, v3, v4, v5, v6, rfl, v8⟩ := hv
  simp only at v8
  subst v8
  have k1 : decide ((i : Int) < 12) = true := by simp; omega
  have k2 : addF (i : Int) 1 = ((i + 1 : Nat) : Int) := addF_nat i 1 (by unfold natMax; omega)
  have hd : (!decide ((i : Int) < (d : Int))) = Nat.ble d i := by
    rw [Bool.eq_iff_iff]; simp [Nat.ble_eq]
  have hsame := same_ok M hM
  have hz : decide ((0 : Int) = 0) = true := rfl
  cases hw : Nat.ble d i with
  | true =>
    rw [hw] at hd
    have hw' : want d i (fstO l) (sndO l) = addF (fstO l) (sndO l) := by simp [want, hw]
    rw [hw'] at hstep
    simp only [q4_29, q4_21, q4_22, q4_23, q4_24, q4_25, q4_26, q4_27, q4_28, seqZ, condZ, blkZ, skipZ, exitZ, retZ, oB_s, seqK_n, seqK_e, seqK_r, condK_t, condK_f, blkK_n, blkK_r, blkK_e,
      e_lss, e_geq, e_neq, e_add, e_bsl, v1, v2, v3, v4, v5, v6, k1, k2, hd, hstep, cZ, hsame, hz, decide_true, Bool.not_true, Bool.not_false, sr4_58_57, sr4_58_8, sr4_58_0, sr4_58_1, sr4_58_10, sr4_58_11, sr4_58_12, sr4_58_13, sr4_58_58, sr4_58_62, sr4_58_73, sr4_12_57, sr4_12_8, sr4_12_0, sr4_12_1, sr4_12_10, sr4_12_11, sr4_12_12, sr4_12_13, sr4_12_58, sr4_12_62, sr4_12_73, sr4_13_57, sr4_13_8, sr4_13_0, sr4_13_1, sr4_13_10, sr4_13_11, sr4_13_12, sr4_13_13, sr4_13_58, sr4_13_62, sr4_13_73, sr4_62_57, sr4_62_8, sr4_62_0, sr4_62_1, sr4_62_10, sr4_62_11, sr4_62_12, sr4_62_13, sr4_62_58, sr4_62_62, sr4_62_73, sr4_73_57, sr4_73_8, sr4_73_0, sr4_73_1, sr4_73_10, sr4_73_11, sr4_73_12, sr4_73_13, sr4_73_58, sr4_73_62, sr4_73_73, sr4_57_57, sr4_57_8, sr4_57_0, sr4_57_1, sr4_57_10, sr4_57_11, sr4_57_12, sr4_57_13, sr4_57_58, sr4_57_62, sr4_57_73, gx4_58, gx4_12, gx4_13, gx4_62, gx4_73, gx4_57]
    refine ⟨_, _, rfl, ?_⟩
    exact ⟨rfl, v2, v3, v4, v5, v6, rfl, by simp⟩
  | false =>
    rw [hw] at hd
    have hw' : want d i (fstO l) (sndO l) = 7 := by simp [want, hw]
    rw [hw'] at hstep
    simp only [q4_29, q4_21, q4_22, q4_23, q4_24, q4_25, q4_26, q4_27, q4_28, seqZ, condZ, blkZ, skipZ, exitZ, retZ, oB_s, seqK_n, seqK_e, seqK_r, condK_t, condK_f, blkK_n, blkK_r, blkK_e,
      e_lss, e_geq, e_neq, e_add, e_bsl, v1, v2, v3, v4, v5, v6, k1, k2, hd, hstep, cZ, hsame, hz, decide_true, Bool.not_true, Bool.not_false, sr4_58_57, sr4_58_8, sr4_58_0, sr4_58_1, sr4_58_10, sr4_58_11, sr4_58_12, sr4_58_13, sr4_58_58, sr4_58_62, sr4_58_73, sr4_12_57, sr4_12_8, sr4_12_0, sr4_12_1, sr4_12_10, sr4_12_11, sr4_12_12, sr4_12_13, sr4_12_58, sr4_12_62, sr4_12_73, sr4_13_57, sr4_13_8, sr4_13_0, sr4_13_1, sr4_13_10, sr4_13_11, sr4_13_12, sr4_13_13, sr4_13_58, sr4_13_62, sr4_13_73, sr4_62_57, sr4_62_8, sr4_62_0, sr4_62_1, sr4_62_10, sr4_62_11, sr4_62_12, sr4_62_13, sr4_62_58, sr4_62_62, sr4_62_73, sr4_73_57, sr4_73_8, sr4_73_0, sr4_73_1, sr4_73_10, sr4_73_11, sr4_73_12, sr4_73_13, sr4_73_58, sr4_73_62, sr4_73_73, sr4_57_57, sr4_57_8, sr4_57_0, sr4_57_1, sr4_57_10, sr4_57_11, sr4_57_12, sr4_57_13, sr4_57_58, sr4_57_62, sr4_57_73, gx4_58, gx4_12, gx4_13, gx4_62, gx4_73, gx4_57]
    refine ⟨_, _, rfl, ?_⟩
    exact ⟨rfl, v2, v3, v4, v5, v6, rfl, by simp⟩

theorem loop_ok (M : Memo) (hM : ∀ a, M 16 a = none) {P : AV} {H : Nat → Heap} {d : Nat} {l : Option (List Int)}
    (hstep : ∀ i, i < 12 → ∃ e, orc CC M 17 [P, rowO l] (H i) = some (.ret (.sl 1 [.int .i64 (want d i (fstO l) (sndO l)), .int .i64 (fstO l)] .dead) (H (i + 1)) e)) :
    ∀ (n i : Nat), n + i = 12 → ∀ (m : Nat), n + 1 ≤ m → ∀ (r : RG) (s : St), Inv P H d l i r s → ∃ r' s', loopN (q4_29 (orc CC M)) m r [] s = some (.exit 2, r', [], s') ∧ s'.esc = 0
  | 0, i, hn, m, hm, r, s, hv => by
    obtain ⟨m', rfl⟩ : ∃ m', m = m' + 1 := ⟨m - 1, by omega⟩
    obtain ⟨v1, v2, v3, v4, v5, v6, v7, v8⟩ := hv
    have hi : i = 12 := by omega
    subst hi
    have k1 : decide (((12 : Nat) : Int) < 12) = false := by decide
    refine ⟨st r 58 (.bool false), s, ?_, v8⟩
    show seqK _ (q4_29 (orc CC M) r [] s) = _
    simp only [q4_29, q4_21, seqZ, condZ, exitZ, skipZ, oB_s, seqK_n, seqK_e, condK_t, condK_f, e_lss, v1, k1, sr4_58_57, sr4_58_8, sr4_58_0, sr4_58_1, sr4_58_10, sr4_58_11, sr4_58_12, sr4_58_13, sr4_58_58, sr4_58_62, sr4_58_73, sr4_12_57, sr4_12_8, sr4_12_0, sr4_12_1, sr4_12_10, sr4_12_11, sr4_12_12, sr4_12_13, sr4_12_58, sr4_12_62, sr4_12_73, sr4_13_57, sr4_13_8, sr4_13_0, sr4_13_1, sr4_13_10, sr4_13_11, sr4_13_12, sr4_13_13, sr4_13_58, sr4_13_62, sr4_13_73, sr4_62_57, sr4_62_8, sr4_62_0, sr4_62_1, sr4_62_10, sr4_62_11, sr4_62_12, sr4_62_13, sr4_62_58, sr4_62_62, sr4_62_73, sr4_73_57, sr4_73_8, sr4_73_0, sr4_73_1, sr4_73_10, sr4_73_11, sr4_73_12, sr4_73_13, sr4_73_58, sr4_73_62, sr4_73_73, sr4_57_57, sr4_57_8, sr4_57_0, sr4_57_1, sr4_57_10, sr4_57_11, sr4_57_12, sr4_57_13, sr4_57_58, sr4_57_62, sr4_57_73, gx4_58, gx4_12, gx4_13, gx4_62, gx4_73, gx4_57]
  | n + 1, i, hn, m, hm, r, s, hv => by
    obtain ⟨m', rfl⟩ : ∃ m', m = m' + 1 := ⟨m - 1, by omega⟩
    obtain ⟨e, he⟩ := hstep i (by omega)
    obtain ⟨r1, s1, h1, h2⟩ := body_ok M hM (by omega) he hv
    obtain ⟨r2, s2, h3, h4⟩ := loop_ok M hM hstep n (i + 1) (by omega) m' (by omega) r1 s1 h2
    refine ⟨r2, s2, ?_, h4⟩
    show seqK _ (q4_29 (orc CC M) r [] s) = _
    rw [h1]
    exact h3
end Go.Proofs
set_option maxRecDepth 100000
namespace Go.Proofs
open Go Go.Abs

theorem orc_memo {M : Memo} {f : FuncId} {args : List AV} {v : AV} (h : M f args = some v) (hp : Heap) : orc CC M f args hp = some (.ret v hp hp.length) := by
  refine orc_of ⟨1, fun n hn => ?_⟩
  obtain ⟨n', rfl⟩ : ∃ n', n = n' + 1 := ⟨n - 1, by omega⟩
  rw [callFM, h]; rfl

noncomputable section
/-- a cell of an object -/
def atOf (h : Heap) (n i : Nat) : AV := match getF h n with
  | some (.cells l) => (match getF l i with | some v => v | none => .top)
  | _ => .top
def fstI : IC → IC
  | .seq a _ => a
  | c => c
def sndI : IC → IC
  | .seq _ b => b
  | c => c
def body4 : IC := match cFunc CC 4 28329145700106169696384 with
  | some fi => fi.body
  | none => .skip
def rest4 : IC := sndI (sndI (sndI (sndI body4)))
def preI : IC :=
  let r1 := sndI rest4
  let r2 := sndI r1
  let r3 := sndI r2
  let r4 := sndI r3
  let r5 := sndI r4
  let r6 := sndI r5
  let r7 := sndI r6
  let r8 := sndI r7
  .seq (fstI rest4) (.seq (fstI r1) (.seq (fstI r2) (.seq (fstI r3) (.seq (fstI r4) (.seq (fstI r5) (.seq (fstI r6) (.seq (fstI r7) (fstI (fstI r8)))))))))
theorem preI_eq (rec : RecT) : codeI CC rec 4 preI = pre rec := by kernel_rfl
end

theorem pre_mono {rec rec' : RecT} (h : RLe rec rec') {r : RG} {ds : Dfs} {s : St} {z} (hz : pre rec r ds s = some z) : pre rec' r ds s = some z := by
  rw [← preI_eq] at hz ⊢
  exact codeI_mono h _ _ _ _ _ hz

theorem seqZ_assoc (a b c : CZ) : seqZ (seqZ a b) c = seqZ a (seqZ b c) := by
  funext r ds s
  simp only [seqZ]
  cases h : a r ds s with
  | none => rfl
  | some x =>
    obtain ⟨e, r1, ds1, s1⟩ := x
    cases e <;> rfl

noncomputable section
/-- up to the nodes; from behind the unit that is made -/
def preA (rec : RecT) : CZ := seqZ (q4_5 rec) (seqZ (seqZ (q4_6 rec) (blkZ 0 (loopZ (q4_10 rec)))) (q4_11 rec))
def preB (rec : RecT) : CZ := seqZ (seqZ (q4_13 rec) (condZ (.t 44) (seqZ (q4_14 rec) retZ) skipZ)) (seqZ (q4_15 rec)
  (seqZ (seqZ (q4_16 rec) (condZ (.t 47) (q4_17 rec) skipZ)) (seqZ (seqZ (q4_18 rec) (condZ (.t 53) (q4_19 rec) skipZ)) (q4_20 rec))))
end
theorem pre_parts (rec : RecT) : pre rec = seqZ (preA rec) (seqZ (q4_12 rec) (preB rec)) := by simp only [pre, preA, preB, seqZ_assoc]
def faultO : Heap := [.cells [.int .i64 0, .int .i64 0]]
theorem pre_ok {rec : RecT} {r rA rB : RG} {nodes P : AV} {g : Heap} {e : Nat} (hA : preA rec r [] ⟨[], 0⟩ = some (.normal, rA, [], ⟨faultO, 0⟩)) (h6 : gt rA 6 = nodes)
    (hm : rec 15 [nodes, .str [102]] faultO = some (.ret (.tuple [P, .bool true]) g e)) (hB : preB rec (st (st rA 8 P) 9 (.bool true)) [] ⟨g, 0⟩ = some (.normal, rB, [], ⟨g, 0⟩)) :
    pre rec r [] ⟨[], 0⟩ = some (.normal, rB, [], ⟨g, 0⟩) := by
  rw [pre_parts]
  have h6' : rA.a.a.g = nodes := h6
  have hq : q4_12 rec rA [] ⟨faultO, 0⟩ = some (.normal, st (st rA 8 P) 9 (.bool true), [], ⟨g, 0⟩) := by
    simp only [q4_12, h6', hm, cZ, Nat.zero_min]
    rfl
  simp only [seqZ, hA, seqK_n, hq, hB]

theorem reg1_eq (x y : AV) (l : Option (List Int)) (d : Int) : st (st (st (st (envOf [x, y] 0 env0) 4 (.bool false)) 15 (.bool false)) 0 (rowO l)) 1 (.int .i64 d) = regO l d := by kernel_rfl

theorem cut_ok (l : Option (List Int)) : oB (lenV CC 32 (rowO l)) (fun v0 => oB (minmaxAV false v0 [(.int .i64 5)]) (fun v1 => sliceAV CC 32 (rowO l) none (some v1) none)) = some (rowO (cutO l)) := by
  have hu : CC.P.underlying 32 = some (.slice 2) := by kernel_rfl
  have hs : sizeT CC 2 = some 1 := by kernel_rfl
  cases l with
  | none => simp [rowO, cutO, lenV_eq, lenAV, hu, oB_s, minmaxAV, sliceAV, boundAV, asNat, hs]
  | some l =>
    simp only [rowO, cutO, Option.map_some, e_len, oB_s, minmaxAV, List.length_map]
    by_cases h : (5 : Int) < (l.length : Int)
    · have h5 : l.length ≠ 5 := by omega
      have h6 : 5 ≤ l.length := by omega
      have h7 : ¬ (5 = l.length) := by omega
      simp [h, sliceAV, boundAV, asNat, hu, hs, h6, h7, List.map_take]
    · have h6 : l.take 5 = l := List.take_of_length_le (by omega)
      simp [h, sliceAV, boundAV, asNat, hu, hs, h6]
      exact List.take_of_length_le (by simp)

theorem law4 (M : Memo) (hM16 : ∀ a, M 16 a = none) (hM4 : ∀ a, M 4 a = none) (hM13 : M 13 [] = some (.bool true)) {d : Nat} {l : Option (List Int)} {D : Int} {R : RG} {S : St} {P : AV} {H : Nat → Heap}
    (hD : oB (binV CC .and 3 true (.int .i64 D) (.int .i64 255)) (fun v0 => binV CC .rem 3 true v0 (.int .i64 10)) = some (.int .i64 d))
    (hpre : pre (orc CC M) (regO (cutO l) d) [] ⟨[], 0⟩ = some (.normal, R, [], S)) (hinv : Inv P H d (cutO l) 0 R S)
    (hstep : ∀ i, i < 12 → ∃ e, orc CC M 17 [P, rowO (cutO l)] (H i) = some (.ret (.sl 1 [.int .i64 (want d i (fstO (cutO l)) (sndO (cutO l))), .int .i64 (fstO (cutO l))] .dead) (H (i + 1)) e)) :
    ∃ h' e', orc CC M 4 [rowO l, .int .i64 D] [] = some (.ret (.bool true) h' e') := by
  have hT : tget tab 4 = some z4 := by kernel_rfl
  have e0 : (envOf [rowO l, .int .i64 D] 0 env0).a.a.a = rowO l := rfl
  have e1 : (envOf [rowO l, .int .i64 D] 0 env0).a.a.b = .int .i64 D := rfl
  have hreg := reg1_eq (rowO l) (.int .i64 D) (cutO l) d
  obtain ⟨r', s', hl1, hl2⟩ := loop_ok M hM16 hstep 12 0 rfl 100000 (by omega) R S hinv
  refine ⟨[], 0, ?_⟩
  refine orc_step cc_mask (T := tget tab) tab_ok (hM4 _) ?_
  rw [hT]
  show cond (Nat.ble 2 512) (finZ CC 4 0 z4 (z4.sh (orc CC M) (envOf [rowO l, .int .i64 D] 0 env0) [] { heap := [], esc := 0 })) none = _
  generalize envOf [rowO l, .int .i64 D] 0 env0 = R0 at e0 e1 hreg
  have haw := orc_memo hM13 []
  have hnest : z4.sh (orc CC M) = seqZ (q4_0 (orc CC M)) (seqZ (seqZ (q4_1 (orc CC M)) (condZ (.t 15) (seqZ (q4_2 (orc CC M)) retZ) skipZ)) (seqZ (q4_3 (orc CC M)) (seqZ (q4_4 (orc CC M))
      (seqZ (pre (orc CC M)) (seqZ (blkZ 2 (loopZ (q4_29 (orc CC M)))) (seqZ (q4_30 (orc CC M)) retZ)))))) := by
    simp only [z4, pre, seqZ_assoc]
  have g15 : ∀ (r : RG) (v : AV), gx ⟨st r 15 v, []⟩ (.t 15) = v := fun _ _ => rfl
  have f4 : ∀ (r : RG) (v : AV), (st r 4 v).a.a.a = r.a.a.a := fun _ _ => rfl
  have f15 : ∀ (r : RG) (v : AV), (st r 15 v).a.a.a = r.a.a.a := fun _ _ => rfl
  have f0 : ∀ (r : RG) (v : AV), (st r 0 v).a.a.b = r.a.a.b := fun _ _ => rfl
  have f4b : ∀ (r : RG) (v : AV), (st r 4 v).a.a.b = r.a.a.b := fun _ _ => rfl
  have f15b : ∀ (r : RG) (v : AV), (st r 15 v).a.a.b = r.a.a.b := fun _ _ => rfl
  have hnot : unOpAV .not (.bool true) = some (.bool false) := rfl
  have run : z4.sh (orc CC M) R0 [] { heap := [], esc := 0 } = some (.ret, st r' 4 (.bool true), [], s') := by
    rw [hnest]
    have s3 : q4_3 (orc CC M) (st (st R0 4 (.bool false)) 15 (.bool false)) [] ⟨[], 0⟩ = some (.normal, st (st (st R0 4 (.bool false)) 15 (.bool false)) 0 (rowO (cutO l)), [], ⟨[], 0⟩) := by
      have hc := cut_ok l
      obtain ⟨v0, c1, hc⟩ := oB_some hc
      obtain ⟨v1, c2, hc⟩ := oB_some hc
      simp only [q4_3, f4, f15, e0, c1, c2, hc, oB_s]
    have s4 : q4_4 (orc CC M) (st (st (st R0 4 (.bool false)) 15 (.bool false)) 0 (rowO (cutO l))) [] ⟨[], 0⟩ = some (.normal, regO (cutO l) d, [], ⟨[], 0⟩) := by
      obtain ⟨v0, c1, hc⟩ := oB_some hD
      simp only [q4_4, f0, f4b, f15b, e1, c1, hc, oB_s, hreg]
    have hm : min 0 ([] : Heap).length = 0 := rfl
    simp only [seqZ, condZ, blkZ, retZ, skipZ, loopZ, q4_0, q4_1, q4_2, haw, cZ, hnot, oB_s, seqK_n, g15, condK_f, hm, s3, s4, hpre, hl1, blkK_e, q4_30]
  simp only [show Nat.ble 2 512 = true from rfl, cond_true, finZ, run]
  have hres : resI (st r' 4 (.bool true)) s'.heap z4.res = some [.bool true] := rfl
  have hb : Nat.beq s'.esc 0 = true := by rw [hl2]; rfl
  simp [finR, hres, gcF, tupleAV, takeF_eq, hb]
  rfl
end Go.Proofs
