/- units of some texts: their order, by evaluation of the models. Part of the proof of girandolelaw09.OrderChains. -/
import Derived.Test.YtglacbfdbfhmfaaDoorCh
set_option linter.unusedVariables false
set_option linter.unusedSimpArgs false
set_option maxRecDepth 1000000
namespace Go.Proofs
open Go Go.Abs
namespace Ch
theorem IG (g0:Nat→Nat)(G:Nat→Nat→Nat)(p q:Nat):aH g0 G p q 26 0 10 0=true:=by kernel_rfl
theorem GF (g0:Nat→Nat)(G:Nat→Nat→Nat)(p q:Nat):aH g0 G p q 26 0 10 10=true:=by kernel_rfl
theorem AX (g0:Nat→Nat)(G:Nat→Nat→Nat)(p q:Nat):aH g0 G p q 26 0 6 20=true:=by kernel_rfl
theorem Lc (g0:Nat→Nat)(G:Nat→Nat→Nat)(p q:Nat):aH g0 G p q 26 1 10 0=true:=by kernel_rfl
theorem Ak (g0:Nat→Nat)(G:Nat→Nat→Nat)(p q:Nat):aH g0 G p q 26 1 10 10=true:=by kernel_rfl
theorem Au (g0:Nat→Nat)(G:Nat→Nat→Nat)(p q:Nat):aH g0 G p q 26 1 6 20=true:=by kernel_rfl
theorem JD (g0:Nat→Nat)(G:Nat→Nat→Nat)(p q:Nat):aH g0 G p q 26 2 10 0=true:=by kernel_rfl
theorem HB (g0:Nat→Nat)(G:Nat→Nat→Nat)(p q:Nat):aH g0 G p q 26 2 10 10=true:=by kernel_rfl
theorem EG (g0:Nat→Nat)(G:Nat→Nat→Nat)(p q:Nat):aH g0 G p q 26 2 6 20=true:=by kernel_rfl
theorem X3 (g0:Nat→Nat)(G:Nat→Nat→Nat)(p q:Nat):∀ la,la < 3→∀ r,r < 26→bB (node g0 G p q 26 la r)=some (want la):=by
 intro la hla r hr
 match la,hla with
 | 0,_ =>
   by_cases h0:r < 10
   ·exact ak 10 0 (IG g0 G p q) r (by omega) (by omega)
   by_cases h1:r < 20
   ·exact ak 10 10 (GF g0 G p q) r (by omega) (by omega)
   exact ak 6 20 (AX g0 G p q) r (by omega) (by omega)
 | 1,_ =>
   by_cases h0:r < 10
   ·exact ak 10 0 (Lc g0 G p q) r (by omega) (by omega)
   by_cases h1:r < 20
   ·exact ak 10 10 (Ak g0 G p q) r (by omega) (by omega)
   exact ak 6 20 (Au g0 G p q) r (by omega) (by omega)
 | 2,_ =>
   by_cases h0:r < 10
   ·exact ak 10 0 (JD g0 G p q) r (by omega) (by omega)
   by_cases h1:r < 20
   ·exact ak 10 10 (HB g0 G p q) r (by omega) (by omega)
   exact ak 6 20 (EG g0 G p q) r (by omega) (by omega)
end Ch
end Go.Proofs
