/- units of some texts: their order, by evaluation of the models. Part of the proof of girandolelaw09.OrderChains. -/
import Derived.Test.YtglacbfdbfhmfaaDoorCh
set_option linter.unusedVariables false
set_option linter.unusedSimpArgs false
set_option maxRecDepth 1000000
namespace Go.Proofs
open Go Go.Abs
namespace Ch
theorem KI (g0:Nat→Nat)(G:Nat→Nat→Nat)(p q:Nat):aH g0 G p q 19 0 10 0=true:=by kernel_rfl
theorem G8 (g0:Nat→Nat)(G:Nat→Nat→Nat)(p q:Nat):aH g0 G p q 19 0 9 10=true:=by kernel_rfl
theorem Ks (g0:Nat→Nat)(G:Nat→Nat→Nat)(p q:Nat):aH g0 G p q 19 1 10 0=true:=by kernel_rfl
theorem Bp (g0:Nat→Nat)(G:Nat→Nat→Nat)(p q:Nat):aH g0 G p q 19 1 9 10=true:=by kernel_rfl
theorem Kq (g0:Nat→Nat)(G:Nat→Nat→Nat)(p q:Nat):aH g0 G p q 19 2 10 0=true:=by kernel_rfl
theorem GS (g0:Nat→Nat)(G:Nat→Nat→Nat)(p q:Nat):aH g0 G p q 19 2 9 10=true:=by kernel_rfl
theorem XT (g0:Nat→Nat)(G:Nat→Nat→Nat)(p q:Nat):∀ la,la < 3→∀ r,r < 19→bB (node g0 G p q 19 la r)=some (want la):=by
 intro la hla r hr
 match la,hla with
 | 0,_ =>
   by_cases h0:r < 10
   ·exact ak 10 0 (KI g0 G p q) r (by omega) (by omega)
   exact ak 9 10 (G8 g0 G p q) r (by omega) (by omega)
 | 1,_ =>
   by_cases h0:r < 10
   ·exact ak 10 0 (Ks g0 G p q) r (by omega) (by omega)
   exact ak 9 10 (Bp g0 G p q) r (by omega) (by omega)
 | 2,_ =>
   by_cases h0:r < 10
   ·exact ak 10 0 (Kq g0 G p q) r (by omega) (by omega)
   exact ak 9 10 (GS g0 G p q) r (by omega) (by omega)
end Ch
end Go.Proofs
