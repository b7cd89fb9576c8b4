/- units of some texts: their order, by evaluation of the models. Part of the proof of girandolelaw09.OrderChains. -/
import Derived.Test.YtglacbfdbfhmfaaDoorCh
set_option linter.unusedVariables false
set_option linter.unusedSimpArgs false
set_option maxRecDepth 1000000
namespace Go.Proofs
open Go Go.Abs
namespace Ch
theorem IL (g0:Nat→Nat)(G:Nat→Nat→Nat)(p q:Nat):aH g0 G p q 20 0 10 0=true:=by kernel_rfl
theorem FR (g0:Nat→Nat)(G:Nat→Nat→Nat)(p q:Nat):aH g0 G p q 20 0 10 10=true:=by kernel_rfl
theorem J8 (g0:Nat→Nat)(G:Nat→Nat→Nat)(p q:Nat):aH g0 G p q 20 1 10 0=true:=by kernel_rfl
theorem GN (g0:Nat→Nat)(G:Nat→Nat→Nat)(p q:Nat):aH g0 G p q 20 1 10 10=true:=by kernel_rfl
theorem Jf (g0:Nat→Nat)(G:Nat→Nat→Nat)(p q:Nat):aH g0 G p q 20 2 10 0=true:=by kernel_rfl
theorem Af (g0:Nat→Nat)(G:Nat→Nat→Nat)(p q:Nat):aH g0 G p q 20 2 10 10=true:=by kernel_rfl
theorem e20 (g0:Nat→Nat)(G:Nat→Nat→Nat)(p q:Nat):∀ la,la < 3→∀ r,r < 20→bB (node g0 G p q 20 la r)=some (want la):=by
 intro la hla r hr
 match la,hla with
 | 0,_ =>
   by_cases h0:r < 10
   ·exact ak 10 0 (IL g0 G p q) r (by omega) (by omega)
   exact ak 10 10 (FR g0 G p q) r (by omega) (by omega)
 | 1,_ =>
   by_cases h0:r < 10
   ·exact ak 10 0 (J8 g0 G p q) r (by omega) (by omega)
   exact ak 10 10 (GN g0 G p q) r (by omega) (by omega)
 | 2,_ =>
   by_cases h0:r < 10
   ·exact ak 10 0 (Jf g0 G p q) r (by omega) (by omega)
   exact ak 10 10 (Af g0 G p q) r (by omega) (by omega)
end Ch
end Go.Proofs
