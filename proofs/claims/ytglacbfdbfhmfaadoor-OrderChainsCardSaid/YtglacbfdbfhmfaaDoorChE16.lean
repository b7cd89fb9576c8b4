/- units of some texts: their order, by evaluation of the models. Part of the proof of girandolelaw09.OrderChains. -/
import Derived.Test.YtglacbfdbfhmfaaDoorCh
set_option linter.unusedVariables false
set_option linter.unusedSimpArgs false
set_option maxRecDepth 1000000
namespace Go.Proofs
open Go Go.Abs
namespace Ch
theorem JJ (g0:Nat→Nat)(G:Nat→Nat→Nat)(p q:Nat):aH g0 G p q 29 0 10 0=true:=by kernel_rfl
theorem Ci (g0:Nat→Nat)(G:Nat→Nat→Nat)(p q:Nat):aH g0 G p q 29 0 10 10=true:=by kernel_rfl
theorem In (g0:Nat→Nat)(G:Nat→Nat→Nat)(p q:Nat):aH g0 G p q 29 0 9 20=true:=by kernel_rfl
theorem Js (g0:Nat→Nat)(G:Nat→Nat→Nat)(p q:Nat):aH g0 G p q 29 1 10 0=true:=by kernel_rfl
theorem B1 (g0:Nat→Nat)(G:Nat→Nat→Nat)(p q:Nat):aH g0 G p q 29 1 10 10=true:=by kernel_rfl
theorem GM (g0:Nat→Nat)(G:Nat→Nat→Nat)(p q:Nat):aH g0 G p q 29 1 9 20=true:=by kernel_rfl
theorem KS (g0:Nat→Nat)(G:Nat→Nat→Nat)(p q:Nat):aH g0 G p q 29 2 10 0=true:=by kernel_rfl
theorem AG (g0:Nat→Nat)(G:Nat→Nat→Nat)(p q:Nat):aH g0 G p q 29 2 10 10=true:=by kernel_rfl
theorem BN (g0:Nat→Nat)(G:Nat→Nat→Nat)(p q:Nat):aH g0 G p q 29 2 9 20=true:=by kernel_rfl
theorem XY (g0:Nat→Nat)(G:Nat→Nat→Nat)(p q:Nat):∀ la,la < 3→∀ r,r < 29→bB (node g0 G p q 29 la r)=some (want la):=by
 intro la hla r hr
 match la,hla with
 | 0,_ =>
   by_cases h0:r < 10
   ·exact ak 10 0 (JJ g0 G p q) r (by omega) (by omega)
   by_cases h1:r < 20
   ·exact ak 10 10 (Ci g0 G p q) r (by omega) (by omega)
   exact ak 9 20 (In g0 G p q) r (by omega) (by omega)
 | 1,_ =>
   by_cases h0:r < 10
   ·exact ak 10 0 (Js g0 G p q) r (by omega) (by omega)
   by_cases h1:r < 20
   ·exact ak 10 10 (B1 g0 G p q) r (by omega) (by omega)
   exact ak 9 20 (GM g0 G p q) r (by omega) (by omega)
 | 2,_ =>
   by_cases h0:r < 10
   ·exact ak 10 0 (KS g0 G p q) r (by omega) (by omega)
   by_cases h1:r < 20
   ·exact ak 10 10 (AG g0 G p q) r (by omega) (by omega)
   exact ak 9 20 (BN g0 G p q) r (by omega) (by omega)
end Ch
end Go.Proofs
