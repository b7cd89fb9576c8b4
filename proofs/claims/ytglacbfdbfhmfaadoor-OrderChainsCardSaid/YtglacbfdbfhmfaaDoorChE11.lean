/- units of some texts: their order, by evaluation of the models. Part of the proof of girandolelaw09.OrderChains. -/
import Derived.Test.YtglacbfdbfhmfaaDoorCh
set_option linter.unusedVariables false
set_option linter.unusedSimpArgs false
set_option maxRecDepth 1000000
namespace Go.Proofs
open Go Go.Abs
namespace Ch
theorem Jj (g0:Nat→Nat)(G:Nat→Nat→Nat)(p q:Nat):aH g0 G p q 24 0 10 0=true:=by kernel_rfl
theorem GD (g0:Nat→Nat)(G:Nat→Nat→Nat)(p q:Nat):aH g0 G p q 24 0 10 10=true:=by kernel_rfl
theorem HF (g0:Nat→Nat)(G:Nat→Nat→Nat)(p q:Nat):aH g0 G p q 24 0 4 20=true:=by kernel_rfl
theorem KK (g0:Nat→Nat)(G:Nat→Nat→Nat)(p q:Nat):aH g0 G p q 24 1 10 0=true:=by kernel_rfl
theorem DO (g0:Nat→Nat)(G:Nat→Nat→Nat)(p q:Nat):aH g0 G p q 24 1 10 10=true:=by kernel_rfl
theorem Do (g0:Nat→Nat)(G:Nat→Nat→Nat)(p q:Nat):aH g0 G p q 24 1 4 20=true:=by kernel_rfl
theorem Jg (g0:Nat→Nat)(G:Nat→Nat→Nat)(p q:Nat):aH g0 G p q 24 2 10 0=true:=by kernel_rfl
theorem Bl (g0:Nat→Nat)(G:Nat→Nat→Nat)(p q:Nat):aH g0 G p q 24 2 10 10=true:=by kernel_rfl
theorem Cv (g0:Nat→Nat)(G:Nat→Nat→Nat)(p q:Nat):aH g0 G p q 24 2 4 20=true:=by kernel_rfl
theorem XQ (g0:Nat→Nat)(G:Nat→Nat→Nat)(p q:Nat):∀ la,la < 3→∀ r,r < 24→bB (node g0 G p q 24 la r)=some (want la):=by
 intro la hla r hr
 match la,hla with
 | 0,_ =>
   by_cases h0:r < 10
   ·exact ak 10 0 (Jj g0 G p q) r (by omega) (by omega)
   by_cases h1:r < 20
   ·exact ak 10 10 (GD g0 G p q) r (by omega) (by omega)
   exact ak 4 20 (HF g0 G p q) r (by omega) (by omega)
 | 1,_ =>
   by_cases h0:r < 10
   ·exact ak 10 0 (KK g0 G p q) r (by omega) (by omega)
   by_cases h1:r < 20
   ·exact ak 10 10 (DO g0 G p q) r (by omega) (by omega)
   exact ak 4 20 (Do g0 G p q) r (by omega) (by omega)
 | 2,_ =>
   by_cases h0:r < 10
   ·exact ak 10 0 (Jg g0 G p q) r (by omega) (by omega)
   by_cases h1:r < 20
   ·exact ak 10 10 (Bl g0 G p q) r (by omega) (by omega)
   exact ak 4 20 (Cv g0 G p q) r (by omega) (by omega)
end Ch
end Go.Proofs
