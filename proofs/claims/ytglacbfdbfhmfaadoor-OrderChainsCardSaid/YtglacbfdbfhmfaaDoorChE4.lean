/- units of some texts: their order, by evaluation of the models. Part of the proof of girandolelaw09.OrderChains. -/
import Derived.Test.YtglacbfdbfhmfaaDoorCh
set_option linter.unusedVariables false
set_option linter.unusedSimpArgs false
set_option maxRecDepth 1000000
namespace Go.Proofs
open Go Go.Abs
namespace Ch
theorem Km (g0:Nat→Nat)(G:Nat→Nat→Nat)(p q:Nat):aH g0 G p q 16 0 10 0=true:=by kernel_rfl
theorem AD (g0:Nat→Nat)(G:Nat→Nat→Nat)(p q:Nat):aH g0 G p q 16 0 6 10=true:=by kernel_rfl
theorem KT (g0:Nat→Nat)(G:Nat→Nat→Nat)(p q:Nat):aH g0 G p q 16 1 10 0=true:=by kernel_rfl
theorem Fg (g0:Nat→Nat)(G:Nat→Nat→Nat)(p q:Nat):aH g0 G p q 16 1 6 10=true:=by kernel_rfl
theorem JV (g0:Nat→Nat)(G:Nat→Nat→Nat)(p q:Nat):aH g0 G p q 16 2 10 0=true:=by kernel_rfl
theorem Fi (g0:Nat→Nat)(G:Nat→Nat→Nat)(p q:Nat):aH g0 G p q 16 2 6 10=true:=by kernel_rfl
theorem XZ (g0:Nat→Nat)(G:Nat→Nat→Nat)(p q:Nat):∀ la,la < 3→∀ r,r < 16→bB (node g0 G p q 16 la r)=some (want la):=by
 intro la hla r hr
 match la,hla with
 | 0,_ =>
   by_cases h0:r < 10
   ·exact ak 10 0 (Km g0 G p q) r (by omega) (by omega)
   exact ak 6 10 (AD g0 G p q) r (by omega) (by omega)
 | 1,_ =>
   by_cases h0:r < 10
   ·exact ak 10 0 (KT g0 G p q) r (by omega) (by omega)
   exact ak 6 10 (Fg g0 G p q) r (by omega) (by omega)
 | 2,_ =>
   by_cases h0:r < 10
   ·exact ak 10 0 (JV g0 G p q) r (by omega) (by omega)
   exact ak 6 10 (Fi g0 G p q) r (by omega) (by omega)
theorem KU (g0:Nat→Nat)(G:Nat→Nat→Nat)(p q:Nat):aH g0 G p q 17 0 10 0=true:=by kernel_rfl
theorem FK (g0:Nat→Nat)(G:Nat→Nat→Nat)(p q:Nat):aH g0 G p q 17 0 7 10=true:=by kernel_rfl
theorem KH (g0:Nat→Nat)(G:Nat→Nat→Nat)(p q:Nat):aH g0 G p q 17 1 10 0=true:=by kernel_rfl
theorem BZ (g0:Nat→Nat)(G:Nat→Nat→Nat)(p q:Nat):aH g0 G p q 17 1 7 10=true:=by kernel_rfl
theorem JX (g0:Nat→Nat)(G:Nat→Nat→Nat)(p q:Nat):aH g0 G p q 17 2 10 0=true:=by kernel_rfl
theorem GG (g0:Nat→Nat)(G:Nat→Nat→Nat)(p q:Nat):aH g0 G p q 17 2 7 10=true:=by kernel_rfl
theorem XC (g0:Nat→Nat)(G:Nat→Nat→Nat)(p q:Nat):∀ la,la < 3→∀ r,r < 17→bB (node g0 G p q 17 la r)=some (want la):=by
 intro la hla r hr
 match la,hla with
 | 0,_ =>
   by_cases h0:r < 10
   ·exact ak 10 0 (KU g0 G p q) r (by omega) (by omega)
   exact ak 7 10 (FK g0 G p q) r (by omega) (by omega)
 | 1,_ =>
   by_cases h0:r < 10
   ·exact ak 10 0 (KH g0 G p q) r (by omega) (by omega)
   exact ak 7 10 (BZ g0 G p q) r (by omega) (by omega)
 | 2,_ =>
   by_cases h0:r < 10
   ·exact ak 10 0 (JX g0 G p q) r (by omega) (by omega)
   exact ak 7 10 (GG g0 G p q) r (by omega) (by omega)
end Ch
end Go.Proofs
