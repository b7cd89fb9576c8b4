/- units of some texts: their order, by evaluation of the models. Part of the proof of girandolelaw09.OrderChains. -/
import Derived.Test.YtglacbfdbfhmfaaDoorCh
set_option linter.unusedVariables false
set_option linter.unusedSimpArgs false
set_option maxRecDepth 1000000
namespace Go.Proofs
open Go Go.Abs
namespace Ch
theorem QZ (g0:Nat→Nat)(G:Nat→Nat→Nat)(p q:Nat):aH g0 G p q 1 0 1 0=true:=by kernel_rfl
theorem SM (g0:Nat→Nat)(G:Nat→Nat→Nat)(p q:Nat):aH g0 G p q 1 1 1 0=true:=by kernel_rfl
theorem RT (g0:Nat→Nat)(G:Nat→Nat→Nat)(p q:Nat):aH g0 G p q 1 2 1 0=true:=by kernel_rfl
theorem e1 (g0:Nat→Nat)(G:Nat→Nat→Nat)(p q:Nat):∀ la,la < 3→∀ r,r < 1→bB (node g0 G p q 1 la r)=some (want la):=by
 intro la hla r hr
 match la,hla with
 | 0,_ =>
   exact ak 1 0 (QZ g0 G p q) r (by omega) (by omega)
 | 1,_ =>
   exact ak 1 0 (SM g0 G p q) r (by omega) (by omega)
 | 2,_ =>
   exact ak 1 0 (RT g0 G p q) r (by omega) (by omega)
theorem SO (g0:Nat→Nat)(G:Nat→Nat→Nat)(p q:Nat):aH g0 G p q 2 0 2 0=true:=by kernel_rfl
theorem Ry (g0:Nat→Nat)(G:Nat→Nat→Nat)(p q:Nat):aH g0 G p q 2 1 2 0=true:=by kernel_rfl
theorem Rs (g0:Nat→Nat)(G:Nat→Nat→Nat)(p q:Nat):aH g0 G p q 2 2 2 0=true:=by kernel_rfl
theorem e2 (g0:Nat→Nat)(G:Nat→Nat→Nat)(p q:Nat):∀ la,la < 3→∀ r,r < 2→bB (node g0 G p q 2 la r)=some (want la):=by
 intro la hla r hr
 match la,hla with
 | 0,_ =>
   exact ak 2 0 (SO g0 G p q) r (by omega) (by omega)
 | 1,_ =>
   exact ak 2 0 (Ry g0 G p q) r (by omega) (by omega)
 | 2,_ =>
   exact ak 2 0 (Rs g0 G p q) r (by omega) (by omega)
theorem RF (g0:Nat→Nat)(G:Nat→Nat→Nat)(p q:Nat):aH g0 G p q 3 0 3 0=true:=by kernel_rfl
theorem RE (g0:Nat→Nat)(G:Nat→Nat→Nat)(p q:Nat):aH g0 G p q 3 1 3 0=true:=by kernel_rfl
theorem R9 (g0:Nat→Nat)(G:Nat→Nat→Nat)(p q:Nat):aH g0 G p q 3 2 3 0=true:=by kernel_rfl
theorem e3 (g0:Nat→Nat)(G:Nat→Nat→Nat)(p q:Nat):∀ la,la < 3→∀ r,r < 3→bB (node g0 G p q 3 la r)=some (want la):=by
 intro la hla r hr
 match la,hla with
 | 0,_ =>
   exact ak 3 0 (RF g0 G p q) r (by omega) (by omega)
 | 1,_ =>
   exact ak 3 0 (RE g0 G p q) r (by omega) (by omega)
 | 2,_ =>
   exact ak 3 0 (R9 g0 G p q) r (by omega) (by omega)
theorem SY (g0:Nat→Nat)(G:Nat→Nat→Nat)(p q:Nat):aH g0 G p q 4 0 4 0=true:=by kernel_rfl
theorem Rz (g0:Nat→Nat)(G:Nat→Nat→Nat)(p q:Nat):aH g0 G p q 4 1 4 0=true:=by kernel_rfl
theorem SD (g0:Nat→Nat)(G:Nat→Nat→Nat)(p q:Nat):aH g0 G p q 4 2 4 0=true:=by kernel_rfl
theorem e4 (g0:Nat→Nat)(G:Nat→Nat→Nat)(p q:Nat):∀ la,la < 3→∀ r,r < 4→bB (node g0 G p q 4 la r)=some (want la):=by
 intro la hla r hr
 match la,hla with
 | 0,_ =>
   exact ak 4 0 (SY g0 G p q) r (by omega) (by omega)
 | 1,_ =>
   exact ak 4 0 (Rz g0 G p q) r (by omega) (by omega)
 | 2,_ =>
   exact ak 4 0 (SD g0 G p q) r (by omega) (by omega)
theorem Sz (g0:Nat→Nat)(G:Nat→Nat→Nat)(p q:Nat):aH g0 G p q 5 0 5 0=true:=by kernel_rfl
theorem Ss (g0:Nat→Nat)(G:Nat→Nat→Nat)(p q:Nat):aH g0 G p q 5 1 5 0=true:=by kernel_rfl
theorem SV (g0:Nat→Nat)(G:Nat→Nat→Nat)(p q:Nat):aH g0 G p q 5 2 5 0=true:=by kernel_rfl
theorem e5 (g0:Nat→Nat)(G:Nat→Nat→Nat)(p q:Nat):∀ la,la < 3→∀ r,r < 5→bB (node g0 G p q 5 la r)=some (want la):=by
 intro la hla r hr
 match la,hla with
 | 0,_ =>
   exact ak 5 0 (Sz g0 G p q) r (by omega) (by omega)
 | 1,_ =>
   exact ak 5 0 (Ss g0 G p q) r (by omega) (by omega)
 | 2,_ =>
   exact ak 5 0 (SV g0 G p q) r (by omega) (by omega)
theorem Sq (g0:Nat→Nat)(G:Nat→Nat→Nat)(p q:Nat):aH g0 G p q 6 0 6 0=true:=by kernel_rfl
theorem Qv (g0:Nat→Nat)(G:Nat→Nat→Nat)(p q:Nat):aH g0 G p q 6 1 6 0=true:=by kernel_rfl
theorem Te (g0:Nat→Nat)(G:Nat→Nat→Nat)(p q:Nat):aH g0 G p q 6 2 6 0=true:=by kernel_rfl
theorem e6 (g0:Nat→Nat)(G:Nat→Nat→Nat)(p q:Nat):∀ la,la < 3→∀ r,r < 6→bB (node g0 G p q 6 la r)=some (want la):=by
 intro la hla r hr
 match la,hla with
 | 0,_ =>
   exact ak 6 0 (Sq g0 G p q) r (by omega) (by omega)
 | 1,_ =>
   exact ak 6 0 (Qv g0 G p q) r (by omega) (by omega)
 | 2,_ =>
   exact ak 6 0 (Te g0 G p q) r (by omega) (by omega)
theorem SF (g0:Nat→Nat)(G:Nat→Nat→Nat)(p q:Nat):aH g0 G p q 7 0 7 0=true:=by kernel_rfl
theorem Qt (g0:Nat→Nat)(G:Nat→Nat→Nat)(p q:Nat):aH g0 G p q 7 1 7 0=true:=by kernel_rfl
theorem QN (g0:Nat→Nat)(G:Nat→Nat→Nat)(p q:Nat):aH g0 G p q 7 2 7 0=true:=by kernel_rfl
theorem e7 (g0:Nat→Nat)(G:Nat→Nat→Nat)(p q:Nat):∀ la,la < 3→∀ r,r < 7→bB (node g0 G p q 7 la r)=some (want la):=by
 intro la hla r hr
 match la,hla with
 | 0,_ =>
   exact ak 7 0 (SF g0 G p q) r (by omega) (by omega)
 | 1,_ =>
   exact ak 7 0 (Qt g0 G p q) r (by omega) (by omega)
 | 2,_ =>
   exact ak 7 0 (QN g0 G p q) r (by omega) (by omega)
theorem Qz (g0:Nat→Nat)(G:Nat→Nat→Nat)(p q:Nat):aH g0 G p q 8 0 8 0=true:=by kernel_rfl
theorem Su (g0:Nat→Nat)(G:Nat→Nat→Nat)(p q:Nat):aH g0 G p q 8 1 8 0=true:=by kernel_rfl
theorem QH (g0:Nat→Nat)(G:Nat→Nat→Nat)(p q:Nat):aH g0 G p q 8 2 8 0=true:=by kernel_rfl
theorem e8 (g0:Nat→Nat)(G:Nat→Nat→Nat)(p q:Nat):∀ la,la < 3→∀ r,r < 8→bB (node g0 G p q 8 la r)=some (want la):=by
 intro la hla r hr
 match la,hla with
 | 0,_ =>
   exact ak 8 0 (Qz g0 G p q) r (by omega) (by omega)
 | 1,_ =>
   exact ak 8 0 (Su g0 G p q) r (by omega) (by omega)
 | 2,_ =>
   exact ak 8 0 (QH g0 G p q) r (by omega) (by omega)
theorem Ta (g0:Nat→Nat)(G:Nat→Nat→Nat)(p q:Nat):aH g0 G p q 9 0 9 0=true:=by kernel_rfl
theorem QS (g0:Nat→Nat)(G:Nat→Nat→Nat)(p q:Nat):aH g0 G p q 9 1 9 0=true:=by kernel_rfl
theorem RW (g0:Nat→Nat)(G:Nat→Nat→Nat)(p q:Nat):aH g0 G p q 9 2 9 0=true:=by kernel_rfl
theorem e9 (g0:Nat→Nat)(G:Nat→Nat→Nat)(p q:Nat):∀ la,la < 3→∀ r,r < 9→bB (node g0 G p q 9 la r)=some (want la):=by
 intro la hla r hr
 match la,hla with
 | 0,_ =>
   exact ak 9 0 (Ta g0 G p q) r (by omega) (by omega)
 | 1,_ =>
   exact ak 9 0 (QS g0 G p q) r (by omega) (by omega)
 | 2,_ =>
   exact ak 9 0 (RW g0 G p q) r (by omega) (by omega)
theorem JO (g0:Nat→Nat)(G:Nat→Nat→Nat)(p q:Nat):aH g0 G p q 10 0 10 0=true:=by kernel_rfl
theorem J5 (g0:Nat→Nat)(G:Nat→Nat→Nat)(p q:Nat):aH g0 G p q 10 1 10 0=true:=by kernel_rfl
theorem Kj (g0:Nat→Nat)(G:Nat→Nat→Nat)(p q:Nat):aH g0 G p q 10 2 10 0=true:=by kernel_rfl
theorem Xt (g0:Nat→Nat)(G:Nat→Nat→Nat)(p q:Nat):∀ la,la < 3→∀ r,r < 10→bB (node g0 G p q 10 la r)=some (want la):=by
 intro la hla r hr
 match la,hla with
 | 0,_ =>
   exact ak 10 0 (JO g0 G p q) r (by omega) (by omega)
 | 1,_ =>
   exact ak 10 0 (J5 g0 G p q) r (by omega) (by omega)
 | 2,_ =>
   exact ak 10 0 (Kj g0 G p q) r (by omega) (by omega)
theorem Ix (g0:Nat→Nat)(G:Nat→Nat→Nat)(p q:Nat):aH g0 G p q 11 0 10 0=true:=by kernel_rfl
theorem Ir (g0:Nat→Nat)(G:Nat→Nat→Nat)(p q:Nat):aH g0 G p q 11 0 1 10=true:=by kernel_rfl
theorem IZ (g0:Nat→Nat)(G:Nat→Nat→Nat)(p q:Nat):aH g0 G p q 11 1 10 0=true:=by kernel_rfl
theorem Fv (g0:Nat→Nat)(G:Nat→Nat→Nat)(p q:Nat):aH g0 G p q 11 1 1 10=true:=by kernel_rfl
theorem KV (g0:Nat→Nat)(G:Nat→Nat→Nat)(p q:Nat):aH g0 G p q 11 2 10 0=true:=by kernel_rfl
theorem Di (g0:Nat→Nat)(G:Nat→Nat→Nat)(p q:Nat):aH g0 G p q 11 2 1 10=true:=by kernel_rfl
theorem XL (g0:Nat→Nat)(G:Nat→Nat→Nat)(p q:Nat):∀ la,la < 3→∀ r,r < 11→bB (node g0 G p q 11 la r)=some (want la):=by
 intro la hla r hr
 match la,hla with
 | 0,_ =>
   by_cases h0:r < 10
   ·exact ak 10 0 (Ix g0 G p q) r (by omega) (by omega)
   exact ak 1 10 (Ir g0 G p q) r (by omega) (by omega)
 | 1,_ =>
   by_cases h0:r < 10
   ·exact ak 10 0 (IZ g0 G p q) r (by omega) (by omega)
   exact ak 1 10 (Fv g0 G p q) r (by omega) (by omega)
 | 2,_ =>
   by_cases h0:r < 10
   ·exact ak 10 0 (KV g0 G p q) r (by omega) (by omega)
   exact ak 1 10 (Di g0 G p q) r (by omega) (by omega)
end Ch
end Go.Proofs
