/- units of some texts: their order, by evaluation of the models. Part of the proof of girandolelaw09.OrderChains. -/
import Derived.Test.YtglacbfdbfhmfaaDoorCh
set_option linter.unusedVariables false
set_option linter.unusedSimpArgs false
set_option maxRecDepth 1000000
namespace Go.Proofs
open Go Go.Abs
namespace Ch
theorem IR (g0:Nat→Nat)(G:Nat→Nat→Nat)(p q:Nat):aH g0 G p q 27 0 10 0=true:=by kernel_rfl
theorem Dl (g0:Nat→Nat)(G:Nat→Nat→Nat)(p q:Nat):aH g0 G p q 27 0 10 10=true:=by kernel_rfl
theorem Ij (g0:Nat→Nat)(G:Nat→Nat→Nat)(p q:Nat):aH g0 G p q 27 0 7 20=true:=by kernel_rfl
theorem Kw (g0:Nat→Nat)(G:Nat→Nat→Nat)(p q:Nat):aH g0 G p q 27 1 10 0=true:=by kernel_rfl
theorem HX (g0:Nat→Nat)(G:Nat→Nat→Nat)(p q:Nat):aH g0 G p q 27 1 10 10=true:=by kernel_rfl
theorem Br (g0:Nat→Nat)(G:Nat→Nat→Nat)(p q:Nat):aH g0 G p q 27 1 7 20=true:=by kernel_rfl
theorem Kx (g0:Nat→Nat)(G:Nat→Nat→Nat)(p q:Nat):aH g0 G p q 27 2 10 0=true:=by kernel_rfl
theorem BG (g0:Nat→Nat)(G:Nat→Nat→Nat)(p q:Nat):aH g0 G p q 27 2 10 10=true:=by kernel_rfl
theorem Ff (g0:Nat→Nat)(G:Nat→Nat→Nat)(p q:Nat):aH g0 G p q 27 2 7 20=true:=by kernel_rfl
theorem e27 (g0:Nat→Nat)(G:Nat→Nat→Nat)(p q:Nat):∀ la,la < 3→∀ r,r < 27→bB (node g0 G p q 27 la r)=some (want la):=by
 intro la hla r hr
 match la,hla with
 | 0,_ =>
   by_cases h0:r < 10
   ·exact ak 10 0 (IR g0 G p q) r (by omega) (by omega)
   by_cases h1:r < 20
   ·exact ak 10 10 (Dl g0 G p q) r (by omega) (by omega)
   exact ak 7 20 (Ij g0 G p q) r (by omega) (by omega)
 | 1,_ =>
   by_cases h0:r < 10
   ·exact ak 10 0 (Kw g0 G p q) r (by omega) (by omega)
   by_cases h1:r < 20
   ·exact ak 10 10 (HX g0 G p q) r (by omega) (by omega)
   exact ak 7 20 (Br g0 G p q) r (by omega) (by omega)
 | 2,_ =>
   by_cases h0:r < 10
   ·exact ak 10 0 (Kx g0 G p q) r (by omega) (by omega)
   by_cases h1:r < 20
   ·exact ak 10 10 (BG g0 G p q) r (by omega) (by omega)
   exact ak 7 20 (Ff g0 G p q) r (by omega) (by omega)
end Ch
end Go.Proofs
