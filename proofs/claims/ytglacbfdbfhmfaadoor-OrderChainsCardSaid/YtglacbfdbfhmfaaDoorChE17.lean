/- units of some texts: their order, by evaluation of the models. Part of the proof of girandolelaw09.OrderChains. -/
import Derived.Test.YtglacbfdbfhmfaaDoorCh
set_option linter.unusedVariables false
set_option linter.unusedSimpArgs false
set_option maxRecDepth 1000000
namespace Go.Proofs
open Go Go.Abs
namespace Ch
theorem JS (g0:Nat→Nat)(G:Nat→Nat→Nat)(p q:Nat):aH g0 G p q 30 0 10 0=true:=by kernel_rfl
theorem EZ (g0:Nat→Nat)(G:Nat→Nat→Nat)(p q:Nat):aH g0 G p q 30 0 10 10=true:=by kernel_rfl
theorem Al (g0:Nat→Nat)(G:Nat→Nat→Nat)(p q:Nat):aH g0 G p q 30 0 10 20=true:=by kernel_rfl
theorem IX (g0:Nat→Nat)(G:Nat→Nat→Nat)(p q:Nat):aH g0 G p q 30 1 10 0=true:=by kernel_rfl
theorem Cc (g0:Nat→Nat)(G:Nat→Nat→Nat)(p q:Nat):aH g0 G p q 30 1 10 10=true:=by kernel_rfl
theorem Db (g0:Nat→Nat)(G:Nat→Nat→Nat)(p q:Nat):aH g0 G p q 30 1 10 20=true:=by kernel_rfl
theorem IA (g0:Nat→Nat)(G:Nat→Nat→Nat)(p q:Nat):aH g0 G p q 30 2 10 0=true:=by kernel_rfl
theorem Bw (g0:Nat→Nat)(G:Nat→Nat→Nat)(p q:Nat):aH g0 G p q 30 2 10 10=true:=by kernel_rfl
theorem Gd (g0:Nat→Nat)(G:Nat→Nat→Nat)(p q:Nat):aH g0 G p q 30 2 10 20=true:=by kernel_rfl
theorem X2 (g0:Nat→Nat)(G:Nat→Nat→Nat)(p q:Nat):∀ la,la < 3→∀ r,r < 30→bB (node g0 G p q 30 la r)=some (want la):=by
 intro la hla r hr
 match la,hla with
 | 0,_ =>
   by_cases h0:r < 10
   ·exact ak 10 0 (JS g0 G p q) r (by omega) (by omega)
   by_cases h1:r < 20
   ·exact ak 10 10 (EZ g0 G p q) r (by omega) (by omega)
   exact ak 10 20 (Al g0 G p q) r (by omega) (by omega)
 | 1,_ =>
   by_cases h0:r < 10
   ·exact ak 10 0 (IX g0 G p q) r (by omega) (by omega)
   by_cases h1:r < 20
   ·exact ak 10 10 (Cc g0 G p q) r (by omega) (by omega)
   exact ak 10 20 (Db g0 G p q) r (by omega) (by omega)
 | 2,_ =>
   by_cases h0:r < 10
   ·exact ak 10 0 (IA g0 G p q) r (by omega) (by omega)
   by_cases h1:r < 20
   ·exact ak 10 10 (Bw g0 G p q) r (by omega) (by omega)
   exact ak 10 20 (Gd g0 G p q) r (by omega) (by omega)
end Ch
end Go.Proofs
