/- units of some texts: their order, by evaluation of the models. Part of the proof of girandolelaw09.OrderChains. -/
import Derived.Test.YtglacbfdbfhmfaaDoorCh
set_option linter.unusedVariables false
set_option linter.unusedSimpArgs false
set_option maxRecDepth 1000000
namespace Go.Proofs
open Go Go.Abs
namespace Ch
theorem Ka (g0:Nat→Nat)(G:Nat→Nat→Nat)(p q:Nat):aH g0 G p q 21 0 10 0=true:=by kernel_rfl
theorem Fw (g0:Nat→Nat)(G:Nat→Nat→Nat)(p q:Nat):aH g0 G p q 21 0 10 10=true:=by kernel_rfl
theorem FW (g0:Nat→Nat)(G:Nat→Nat→Nat)(p q:Nat):aH g0 G p q 21 0 1 20=true:=by kernel_rfl
theorem Kc (g0:Nat→Nat)(G:Nat→Nat→Nat)(p q:Nat):aH g0 G p q 21 1 10 0=true:=by kernel_rfl
theorem EF (g0:Nat→Nat)(G:Nat→Nat→Nat)(p q:Nat):aH g0 G p q 21 1 10 10=true:=by kernel_rfl
theorem F6 (g0:Nat→Nat)(G:Nat→Nat→Nat)(p q:Nat):aH g0 G p q 21 1 1 20=true:=by kernel_rfl
theorem KA (g0:Nat→Nat)(G:Nat→Nat→Nat)(p q:Nat):aH g0 G p q 21 2 10 0=true:=by kernel_rfl
theorem Cw (g0:Nat→Nat)(G:Nat→Nat→Nat)(p q:Nat):aH g0 G p q 21 2 10 10=true:=by kernel_rfl
theorem EV (g0:Nat→Nat)(G:Nat→Nat→Nat)(p q:Nat):aH g0 G p q 21 2 1 20=true:=by kernel_rfl
theorem XN (g0:Nat→Nat)(G:Nat→Nat→Nat)(p q:Nat):∀ la,la < 3→∀ r,r < 21→bB (node g0 G p q 21 la r)=some (want la):=by
 intro la hla r hr
 match la,hla with
 | 0,_ =>
   by_cases h0:r < 10
   ·exact ak 10 0 (Ka g0 G p q) r (by omega) (by omega)
   by_cases h1:r < 20
   ·exact ak 10 10 (Fw g0 G p q) r (by omega) (by omega)
   exact ak 1 20 (FW g0 G p q) r (by omega) (by omega)
 | 1,_ =>
   by_cases h0:r < 10
   ·exact ak 10 0 (Kc g0 G p q) r (by omega) (by omega)
   by_cases h1:r < 20
   ·exact ak 10 10 (EF g0 G p q) r (by omega) (by omega)
   exact ak 1 20 (F6 g0 G p q) r (by omega) (by omega)
 | 2,_ =>
   by_cases h0:r < 10
   ·exact ak 10 0 (KA g0 G p q) r (by omega) (by omega)
   by_cases h1:r < 20
   ·exact ak 10 10 (Cw g0 G p q) r (by omega) (by omega)
   exact ak 1 20 (EV g0 G p q) r (by omega) (by omega)
end Ch
end Go.Proofs
