/- units of some texts: their order, by evaluation of the models. Part of the proof of girandolelaw09.OrderChains. -/
import Derived.Test.YtglacbfdbfhmfaaDoorCh
set_option linter.unusedVariables false
set_option linter.unusedSimpArgs false
set_option maxRecDepth 1000000
namespace Go.Proofs
open Go Go.Abs
namespace Ch
theorem Lb (g0:Nat→Nat)(G:Nat→Nat→Nat)(p q:Nat):aH g0 G p q 28 0 10 0=true:=by kernel_rfl
theorem Ie (g0:Nat→Nat)(G:Nat→Nat→Nat)(p q:Nat):aH g0 G p q 28 0 10 10=true:=by kernel_rfl
theorem Hg (g0:Nat→Nat)(G:Nat→Nat→Nat)(p q:Nat):aH g0 G p q 28 0 8 20=true:=by kernel_rfl
theorem Jr (g0:Nat→Nat)(G:Nat→Nat→Nat)(p q:Nat):aH g0 G p q 28 1 10 0=true:=by kernel_rfl
theorem AJ (g0:Nat→Nat)(G:Nat→Nat→Nat)(p q:Nat):aH g0 G p q 28 1 10 10=true:=by kernel_rfl
theorem Ep (g0:Nat→Nat)(G:Nat→Nat→Nat)(p q:Nat):aH g0 G p q 28 1 8 20=true:=by kernel_rfl
theorem IH (g0:Nat→Nat)(G:Nat→Nat→Nat)(p q:Nat):aH g0 G p q 28 2 10 0=true:=by kernel_rfl
theorem Ih (g0:Nat→Nat)(G:Nat→Nat→Nat)(p q:Nat):aH g0 G p q 28 2 10 10=true:=by kernel_rfl
theorem AM (g0:Nat→Nat)(G:Nat→Nat→Nat)(p q:Nat):aH g0 G p q 28 2 8 20=true:=by kernel_rfl
theorem XE (g0:Nat→Nat)(G:Nat→Nat→Nat)(p q:Nat):∀ la,la < 3→∀ r,r < 28→bB (node g0 G p q 28 la r)=some (want la):=by
 intro la hla r hr
 match la,hla with
 | 0,_ =>
   by_cases h0:r < 10
   ·exact ak 10 0 (Lb g0 G p q) r (by omega) (by omega)
   by_cases h1:r < 20
   ·exact ak 10 10 (Ie g0 G p q) r (by omega) (by omega)
   exact ak 8 20 (Hg g0 G p q) r (by omega) (by omega)
 | 1,_ =>
   by_cases h0:r < 10
   ·exact ak 10 0 (Jr g0 G p q) r (by omega) (by omega)
   by_cases h1:r < 20
   ·exact ak 10 10 (AJ g0 G p q) r (by omega) (by omega)
   exact ak 8 20 (Ep g0 G p q) r (by omega) (by omega)
 | 2,_ =>
   by_cases h0:r < 10
   ·exact ak 10 0 (IH g0 G p q) r (by omega) (by omega)
   by_cases h1:r < 20
   ·exact ak 10 10 (Ih g0 G p q) r (by omega) (by omega)
   exact ak 8 20 (AM g0 G p q) r (by omega) (by omega)
end Ch
end Go.Proofs
