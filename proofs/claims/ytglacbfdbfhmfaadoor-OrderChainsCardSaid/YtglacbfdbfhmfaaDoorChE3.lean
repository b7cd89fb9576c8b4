/- units of some texts: their order, by evaluation of the models. Part of the proof of girandolelaw09.OrderChains. -/
import Derived.Test.YtglacbfdbfhmfaaDoorCh
set_option linter.unusedVariables false
set_option linter.unusedSimpArgs false
set_option maxRecDepth 1000000
namespace Go.Proofs
open Go Go.Abs
namespace Ch
theorem JF (g0:Nat→Nat)(G:Nat→Nat→Nat)(p q:Nat):aH g0 G p q 14 0 10 0=true:=by kernel_rfl
theorem ES (g0:Nat→Nat)(G:Nat→Nat→Nat)(p q:Nat):aH g0 G p q 14 0 4 10=true:=by kernel_rfl
theorem J2 (g0:Nat→Nat)(G:Nat→Nat→Nat)(p q:Nat):aH g0 G p q 14 1 10 0=true:=by kernel_rfl
theorem Er (g0:Nat→Nat)(G:Nat→Nat→Nat)(p q:Nat):aH g0 G p q 14 1 4 10=true:=by kernel_rfl
theorem Lh (g0:Nat→Nat)(G:Nat→Nat→Nat)(p q:Nat):aH g0 G p q 14 2 10 0=true:=by kernel_rfl
theorem E0 (g0:Nat→Nat)(G:Nat→Nat→Nat)(p q:Nat):aH g0 G p q 14 2 4 10=true:=by kernel_rfl
theorem XA (g0:Nat→Nat)(G:Nat→Nat→Nat)(p q:Nat):∀ la,la < 3→∀ r,r < 14→bB (node g0 G p q 14 la r)=some (want la):=by
 intro la hla r hr
 match la,hla with
 | 0,_ =>
   by_cases h0:r < 10
   ·exact ak 10 0 (JF g0 G p q) r (by omega) (by omega)
   exact ak 4 10 (ES g0 G p q) r (by omega) (by omega)
 | 1,_ =>
   by_cases h0:r < 10
   ·exact ak 10 0 (J2 g0 G p q) r (by omega) (by omega)
   exact ak 4 10 (Er g0 G p q) r (by omega) (by omega)
 | 2,_ =>
   by_cases h0:r < 10
   ·exact ak 10 0 (Lh g0 G p q) r (by omega) (by omega)
   exact ak 4 10 (E0 g0 G p q) r (by omega) (by omega)
theorem J7 (g0:Nat→Nat)(G:Nat→Nat→Nat)(p q:Nat):aH g0 G p q 15 0 10 0=true:=by kernel_rfl
theorem GB (g0:Nat→Nat)(G:Nat→Nat→Nat)(p q:Nat):aH g0 G p q 15 0 5 10=true:=by kernel_rfl
theorem Jh (g0:Nat→Nat)(G:Nat→Nat→Nat)(p q:Nat):aH g0 G p q 15 1 10 0=true:=by kernel_rfl
theorem CU (g0:Nat→Nat)(G:Nat→Nat→Nat)(p q:Nat):aH g0 G p q 15 1 5 10=true:=by kernel_rfl
theorem I6 (g0:Nat→Nat)(G:Nat→Nat→Nat)(p q:Nat):aH g0 G p q 15 2 10 0=true:=by kernel_rfl
theorem Ek (g0:Nat→Nat)(G:Nat→Nat→Nat)(p q:Nat):aH g0 G p q 15 2 5 10=true:=by kernel_rfl
theorem XX (g0:Nat→Nat)(G:Nat→Nat→Nat)(p q:Nat):∀ la,la < 3→∀ r,r < 15→bB (node g0 G p q 15 la r)=some (want la):=by
 intro la hla r hr
 match la,hla with
 | 0,_ =>
   by_cases h0:r < 10
   ·exact ak 10 0 (J7 g0 G p q) r (by omega) (by omega)
   exact ak 5 10 (GB g0 G p q) r (by omega) (by omega)
 | 1,_ =>
   by_cases h0:r < 10
   ·exact ak 10 0 (Jh g0 G p q) r (by omega) (by omega)
   exact ak 5 10 (CU g0 G p q) r (by omega) (by omega)
 | 2,_ =>
   by_cases h0:r < 10
   ·exact ak 10 0 (I6 g0 G p q) r (by omega) (by omega)
   exact ak 5 10 (Ek g0 G p q) r (by omega) (by omega)
end Ch
end Go.Proofs
