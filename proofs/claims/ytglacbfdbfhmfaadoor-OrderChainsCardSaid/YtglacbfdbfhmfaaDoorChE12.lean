/- units of some texts: their order, by evaluation of the models. Part of the proof of girandolelaw09.OrderChains. -/
import Derived.Test.YtglacbfdbfhmfaaDoorCh
set_option linter.unusedVariables false
set_option linter.unusedSimpArgs false
set_option maxRecDepth 1000000
namespace Go.Proofs
open Go Go.Abs
namespace Ch
theorem I9 (g0:Nat→Nat)(G:Nat→Nat→Nat)(p q:Nat):aH g0 G p q 25 0 10 0=true:=by kernel_rfl
theorem C9 (g0:Nat→Nat)(G:Nat→Nat→Nat)(p q:Nat):aH g0 G p q 25 0 10 10=true:=by kernel_rfl
theorem Fj (g0:Nat→Nat)(G:Nat→Nat→Nat)(p q:Nat):aH g0 G p q 25 0 5 20=true:=by kernel_rfl
theorem KZ (g0:Nat→Nat)(G:Nat→Nat→Nat)(p q:Nat):aH g0 G p q 25 1 10 0=true:=by kernel_rfl
theorem DZ (g0:Nat→Nat)(G:Nat→Nat→Nat)(p q:Nat):aH g0 G p q 25 1 10 10=true:=by kernel_rfl
theorem DY (g0:Nat→Nat)(G:Nat→Nat→Nat)(p q:Nat):aH g0 G p q 25 1 5 20=true:=by kernel_rfl
theorem IJ (g0:Nat→Nat)(G:Nat→Nat→Nat)(p q:Nat):aH g0 G p q 25 2 10 0=true:=by kernel_rfl
theorem Fu (g0:Nat→Nat)(G:Nat→Nat→Nat)(p q:Nat):aH g0 G p q 25 2 10 10=true:=by kernel_rfl
theorem F8 (g0:Nat→Nat)(G:Nat→Nat→Nat)(p q:Nat):aH g0 G p q 25 2 5 20=true:=by kernel_rfl
theorem Xw (g0:Nat→Nat)(G:Nat→Nat→Nat)(p q:Nat):∀ la,la < 3→∀ r,r < 25→bB (node g0 G p q 25 la r)=some (want la):=by
 intro la hla r hr
 match la,hla with
 | 0,_ =>
   by_cases h0:r < 10
   ·exact ak 10 0 (I9 g0 G p q) r (by omega) (by omega)
   by_cases h1:r < 20
   ·exact ak 10 10 (C9 g0 G p q) r (by omega) (by omega)
   exact ak 5 20 (Fj g0 G p q) r (by omega) (by omega)
 | 1,_ =>
   by_cases h0:r < 10
   ·exact ak 10 0 (KZ g0 G p q) r (by omega) (by omega)
   by_cases h1:r < 20
   ·exact ak 10 10 (DZ g0 G p q) r (by omega) (by omega)
   exact ak 5 20 (DY g0 G p q) r (by omega) (by omega)
 | 2,_ =>
   by_cases h0:r < 10
   ·exact ak 10 0 (IJ g0 G p q) r (by omega) (by omega)
   by_cases h1:r < 20
   ·exact ak 10 10 (Fu g0 G p q) r (by omega) (by omega)
   exact ak 5 20 (F8 g0 G p q) r (by omega) (by omega)
end Ch
end Go.Proofs
