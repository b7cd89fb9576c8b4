/- units of some texts: their order, by evaluation of the models. Part of the proof of girandolelaw09.OrderChains. -/
import Derived.Test.YtglacbfdbfhmfaaDoorCh
set_option linter.unusedVariables false
set_option linter.unusedSimpArgs false
set_option maxRecDepth 1000000
namespace Go.Proofs
open Go Go.Abs
namespace Ch
theorem K0 (g0:Nat→Nat)(G:Nat→Nat→Nat)(p q:Nat):aH g0 G p q 18 0 10 0=true:=by kernel_rfl
theorem F9 (g0:Nat→Nat)(G:Nat→Nat→Nat)(p q:Nat):aH g0 G p q 18 0 8 10=true:=by kernel_rfl
theorem K6 (g0:Nat→Nat)(G:Nat→Nat→Nat)(p q:Nat):aH g0 G p q 18 1 10 0=true:=by kernel_rfl
theorem A7 (g0:Nat→Nat)(G:Nat→Nat→Nat)(p q:Nat):aH g0 G p q 18 1 8 10=true:=by kernel_rfl
theorem Jo (g0:Nat→Nat)(G:Nat→Nat→Nat)(p q:Nat):aH g0 G p q 18 2 10 0=true:=by kernel_rfl
theorem Hl (g0:Nat→Nat)(G:Nat→Nat→Nat)(p q:Nat):aH g0 G p q 18 2 8 10=true:=by kernel_rfl
theorem Xx (g0:Nat→Nat)(G:Nat→Nat→Nat)(p q:Nat):∀ la,la < 3→∀ r,r < 18→bB (node g0 G p q 18 la r)=some (want la):=by
 intro la hla r hr
 match la,hla with
 | 0,_ =>
   by_cases h0:r < 10
   ·exact ak 10 0 (K0 g0 G p q) r (by omega) (by omega)
   exact ak 8 10 (F9 g0 G p q) r (by omega) (by omega)
 | 1,_ =>
   by_cases h0:r < 10
   ·exact ak 10 0 (K6 g0 G p q) r (by omega) (by omega)
   exact ak 8 10 (A7 g0 G p q) r (by omega) (by omega)
 | 2,_ =>
   by_cases h0:r < 10
   ·exact ak 10 0 (Jo g0 G p q) r (by omega) (by omega)
   exact ak 8 10 (Hl g0 G p q) r (by omega) (by omega)
end Ch
end Go.Proofs
