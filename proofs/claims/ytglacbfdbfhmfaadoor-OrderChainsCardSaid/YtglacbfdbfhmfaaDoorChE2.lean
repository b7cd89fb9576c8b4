/- units of some texts: their order, by evaluation of the models. Part of the proof of girandolelaw09.OrderChains. -/
import Derived.Test.YtglacbfdbfhmfaaDoorCh
set_option linter.unusedVariables false
set_option linter.unusedSimpArgs false
set_option maxRecDepth 1000000
namespace Go.Proofs
open Go Go.Abs
namespace Ch
theorem K8 (g0:Nat→Nat)(G:Nat→Nat→Nat)(p q:Nat):aH g0 G p q 12 0 10 0=true:=by kernel_rfl
theorem Be (g0:Nat→Nat)(G:Nat→Nat→Nat)(p q:Nat):aH g0 G p q 12 0 2 10=true:=by kernel_rfl
theorem IU (g0:Nat→Nat)(G:Nat→Nat→Nat)(p q:Nat):aH g0 G p q 12 1 10 0=true:=by kernel_rfl
theorem Gt (g0:Nat→Nat)(G:Nat→Nat→Nat)(p q:Nat):aH g0 G p q 12 1 2 10=true:=by kernel_rfl
theorem Jb (g0:Nat→Nat)(G:Nat→Nat→Nat)(p q:Nat):aH g0 G p q 12 2 10 0=true:=by kernel_rfl
theorem D9 (g0:Nat→Nat)(G:Nat→Nat→Nat)(p q:Nat):aH g0 G p q 12 2 2 10=true:=by kernel_rfl
theorem XV (g0:Nat→Nat)(G:Nat→Nat→Nat)(p q:Nat):∀ la,la < 3→∀ r,r < 12→bB (node g0 G p q 12 la r)=some (want la):=by
 intro la hla r hr
 match la,hla with
 | 0,_ =>
   by_cases h0:r < 10
   ·exact ak 10 0 (K8 g0 G p q) r (by omega) (by omega)
   exact ak 2 10 (Be g0 G p q) r (by omega) (by omega)
 | 1,_ =>
   by_cases h0:r < 10
   ·exact ak 10 0 (IU g0 G p q) r (by omega) (by omega)
   exact ak 2 10 (Gt g0 G p q) r (by omega) (by omega)
 | 2,_ =>
   by_cases h0:r < 10
   ·exact ak 10 0 (Jb g0 G p q) r (by omega) (by omega)
   exact ak 2 10 (D9 g0 G p q) r (by omega) (by omega)
theorem Je (g0:Nat→Nat)(G:Nat→Nat→Nat)(p q:Nat):aH g0 G p q 13 0 10 0=true:=by kernel_rfl
theorem BS (g0:Nat→Nat)(G:Nat→Nat→Nat)(p q:Nat):aH g0 G p q 13 0 3 10=true:=by kernel_rfl
theorem Kk (g0:Nat→Nat)(G:Nat→Nat→Nat)(p q:Nat):aH g0 G p q 13 1 10 0=true:=by kernel_rfl
theorem CJ (g0:Nat→Nat)(G:Nat→Nat→Nat)(p q:Nat):aH g0 G p q 13 1 3 10=true:=by kernel_rfl
theorem Ld (g0:Nat→Nat)(G:Nat→Nat→Nat)(p q:Nat):aH g0 G p q 13 2 10 0=true:=by kernel_rfl
theorem DC (g0:Nat→Nat)(G:Nat→Nat→Nat)(p q:Nat):aH g0 G p q 13 2 3 10=true:=by kernel_rfl
theorem XS (g0:Nat→Nat)(G:Nat→Nat→Nat)(p q:Nat):∀ la,la < 3→∀ r,r < 13→bB (node g0 G p q 13 la r)=some (want la):=by
 intro la hla r hr
 match la,hla with
 | 0,_ =>
   by_cases h0:r < 10
   ·exact ak 10 0 (Je g0 G p q) r (by omega) (by omega)
   exact ak 3 10 (BS g0 G p q) r (by omega) (by omega)
 | 1,_ =>
   by_cases h0:r < 10
   ·exact ak 10 0 (Kk g0 G p q) r (by omega) (by omega)
   exact ak 3 10 (CJ g0 G p q) r (by omega) (by omega)
 | 2,_ =>
   by_cases h0:r < 10
   ·exact ak 10 0 (Ld g0 G p q) r (by omega) (by omega)
   exact ak 3 10 (DC g0 G p q) r (by omega) (by omega)
end Ch
end Go.Proofs
