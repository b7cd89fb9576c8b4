/- units of some texts: their order, by evaluation of the models. Part of the proof of girandolelaw09.OrderChains. -/
import Derived.Test.YtglacbfdbfhmfaaDoorCh
set_option linter.unusedVariables false
set_option linter.unusedSimpArgs false
set_option maxRecDepth 1000000
namespace Go.Proofs
open Go Go.Abs
namespace Ch
theorem IN (g0:Nat→Nat)(G:Nat→Nat→Nat)(p q:Nat):aH g0 G p q 23 0 10 0=true:=by kernel_rfl
theorem DA (g0:Nat→Nat)(G:Nat→Nat→Nat)(p q:Nat):aH g0 G p q 23 0 10 10=true:=by kernel_rfl
theorem EU (g0:Nat→Nat)(G:Nat→Nat→Nat)(p q:Nat):aH g0 G p q 23 0 3 20=true:=by kernel_rfl
theorem Ji (g0:Nat→Nat)(G:Nat→Nat→Nat)(p q:Nat):aH g0 G p q 23 1 10 0=true:=by kernel_rfl
theorem Hp (g0:Nat→Nat)(G:Nat→Nat→Nat)(p q:Nat):aH g0 G p q 23 1 10 10=true:=by kernel_rfl
theorem G9 (g0:Nat→Nat)(G:Nat→Nat→Nat)(p q:Nat):aH g0 G p q 23 1 3 20=true:=by kernel_rfl
theorem IV (g0:Nat→Nat)(G:Nat→Nat→Nat)(p q:Nat):aH g0 G p q 23 2 10 0=true:=by kernel_rfl
theorem Bb (g0:Nat→Nat)(G:Nat→Nat→Nat)(p q:Nat):aH g0 G p q 23 2 10 10=true:=by kernel_rfl
theorem Hs (g0:Nat→Nat)(G:Nat→Nat→Nat)(p q:Nat):aH g0 G p q 23 2 3 20=true:=by kernel_rfl
theorem XW (g0:Nat→Nat)(G:Nat→Nat→Nat)(p q:Nat):∀ la,la < 3→∀ r,r < 23→bB (node g0 G p q 23 la r)=some (want la):=by
 intro la hla r hr
 match la,hla with
 | 0,_ =>
   by_cases h0:r < 10
   ·exact ak 10 0 (IN g0 G p q) r (by omega) (by omega)
   by_cases h1:r < 20
   ·exact ak 10 10 (DA g0 G p q) r (by omega) (by omega)
   exact ak 3 20 (EU g0 G p q) r (by omega) (by omega)
 | 1,_ =>
   by_cases h0:r < 10
   ·exact ak 10 0 (Ji g0 G p q) r (by omega) (by omega)
   by_cases h1:r < 20
   ·exact ak 10 10 (Hp g0 G p q) r (by omega) (by omega)
   exact ak 3 20 (G9 g0 G p q) r (by omega) (by omega)
 | 2,_ =>
   by_cases h0:r < 10
   ·exact ak 10 0 (IV g0 G p q) r (by omega) (by omega)
   by_cases h1:r < 20
   ·exact ak 10 10 (Bb g0 G p q) r (by omega) (by omega)
   exact ak 3 20 (Hs g0 G p q) r (by omega) (by omega)
end Ch
end Go.Proofs
