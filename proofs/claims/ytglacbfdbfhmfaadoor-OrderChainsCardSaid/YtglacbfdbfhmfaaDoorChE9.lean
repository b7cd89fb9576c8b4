/- units of some texts: their order, by evaluation of the models. Part of the proof of girandolelaw09.OrderChains. -/
import Derived.Test.YtglacbfdbfhmfaaDoorCh
set_option linter.unusedVariables false
set_option linter.unusedSimpArgs false
set_option maxRecDepth 1000000
namespace Go.Proofs
open Go Go.Abs
namespace Ch
theorem Kl (g0:Nat→Nat)(G:Nat→Nat→Nat)(p q:Nat):aH g0 G p q 22 0 10 0=true:=by kernel_rfl
theorem DU (g0:Nat→Nat)(G:Nat→Nat→Nat)(p q:Nat):aH g0 G p q 22 0 10 10=true:=by kernel_rfl
theorem Ee (g0:Nat→Nat)(G:Nat→Nat→Nat)(p q:Nat):aH g0 G p q 22 0 2 20=true:=by kernel_rfl
theorem JB (g0:Nat→Nat)(G:Nat→Nat→Nat)(p q:Nat):aH g0 G p q 22 1 10 0=true:=by kernel_rfl
theorem B3 (g0:Nat→Nat)(G:Nat→Nat→Nat)(p q:Nat):aH g0 G p q 22 1 10 10=true:=by kernel_rfl
theorem Ez (g0:Nat→Nat)(G:Nat→Nat→Nat)(p q:Nat):aH g0 G p q 22 1 2 20=true:=by kernel_rfl
theorem JZ (g0:Nat→Nat)(G:Nat→Nat→Nat)(p q:Nat):aH g0 G p q 22 2 10 0=true:=by kernel_rfl
theorem Ga (g0:Nat→Nat)(G:Nat→Nat→Nat)(p q:Nat):aH g0 G p q 22 2 10 10=true:=by kernel_rfl
theorem Im (g0:Nat→Nat)(G:Nat→Nat→Nat)(p q:Nat):aH g0 G p q 22 2 2 20=true:=by kernel_rfl
theorem XR (g0:Nat→Nat)(G:Nat→Nat→Nat)(p q:Nat):∀ la,la < 3→∀ r,r < 22→bB (node g0 G p q 22 la r)=some (want la):=by
 intro la hla r hr
 match la,hla with
 | 0,_ =>
   by_cases h0:r < 10
   ·exact ak 10 0 (Kl g0 G p q) r (by omega) (by omega)
   by_cases h1:r < 20
   ·exact ak 10 10 (DU g0 G p q) r (by omega) (by omega)
   exact ak 2 20 (Ee g0 G p q) r (by omega) (by omega)
 | 1,_ =>
   by_cases h0:r < 10
   ·exact ak 10 0 (JB g0 G p q) r (by omega) (by omega)
   by_cases h1:r < 20
   ·exact ak 10 10 (B3 g0 G p q) r (by omega) (by omega)
   exact ak 2 20 (Ez g0 G p q) r (by omega) (by omega)
 | 2,_ =>
   by_cases h0:r < 10
   ·exact ak 10 0 (JZ g0 G p q) r (by omega) (by omega)
   by_cases h1:r < 20
   ·exact ak 10 10 (Ga g0 G p q) r (by omega) (by omega)
   exact ak 2 20 (Im g0 G p q) r (by omega) (by omega)
end Ch
end Go.Proofs
