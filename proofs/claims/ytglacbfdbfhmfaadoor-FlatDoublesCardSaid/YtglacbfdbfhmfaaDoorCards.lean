/-
  DERIVED. GIVEN WITH THE SEED: THE CARDS: each row of YtglacbfdbfhmfaaDoorRows.lean that lists a variable, with what it lists TIED to the program's text (the seventh form; the later family's looks); each row that meets fmt, with fmt's text TOLD by the authors' own Lean function (tested against real Go, not proved from fmt's source: count such statements apart). THE CARD IS WHAT COUNTS. Prove the row's statement (the work); the ties are given (YtglacbfdbfhmfaaDoorTie.lean); close each card by the builder's one call (the guide's Derived/Test/ToyasCard.lean, 'card_holds'). Laid BY PROGRAM, IN A SANDBOX (cutbox-door.mjs). By AI agents, Wed Nov 11 2026. No macro, syntax, notation, axiom, sorry.
-/
import Derived.Test.YtglacbfdbfhmfaaDoorRows
import GoSem.ClaimSeven
namespace Go.Proofs.YtglacbfdbfhmfaaDoor
namespace Rows

/-- THE TIED CARD OF 'girandolelaw08.FlatDoubles'. -/
def flatDoublesCard : Claim7 := { stood := { row := flatDoublesRow, standIns := [], harness := (true, "75ba6ee586d5909ce3e6d74ec5128fbbecd8bb393127d8ed11b378f03576e586"), looks := true }, kinds := [], alts := [], laidByText := true, laidKinds := [.listed, .data], laidTests := true, laidLooks := .later }
def FlatDoublesCardSaid : Prop := Claim7.holds Tryd.pinned (.plain (OpenSpec.ofChange flatDoublesSpec)) flatDoublesCard

/-- THE TIED CARD OF 'girandolelaw08.FlatClocks'. -/
def flatClocksCard : Claim7 := { stood := { row := flatClocksRow, standIns := [], harness := (true, "75ba6ee586d5909ce3e6d74ec5128fbbecd8bb393127d8ed11b378f03576e586"), looks := true }, kinds := [], alts := [], laidByText := true, laidKinds := [.listed, .data], laidTests := true, laidLooks := .later }
def FlatClocksCardSaid : Prop := Claim7.holds Tryd.pinned (.plain (OpenSpec.ofChange flatClocksSpec)) flatClocksCard

/-- THE TIED CARD OF 'girandolelaw09.OrderChains'. -/
def orderChainsCard : Claim7 := { stood := { row := orderChainsRow, standIns := [], harness := (true, "75ba6ee586d5909ce3e6d74ec5128fbbecd8bb393127d8ed11b378f03576e586"), looks := true }, kinds := [], alts := [], laidByText := true, laidKinds := [.listed, .data], laidTests := true, laidLooks := .later }
def OrderChainsCardSaid : Prop := Claim7.holds Tryd.pinned (.plain (OpenSpec.ofChange orderChainsSpec)) orderChainsCard

/-- THE TIED CARD OF 'girandolelaw09.OrderCalls'. -/
def orderCallsCard : Claim7 := { stood := { row := orderCallsRow, standIns := [], harness := (true, "75ba6ee586d5909ce3e6d74ec5128fbbecd8bb393127d8ed11b378f03576e586"), looks := true }, kinds := [], alts := [], laidByText := true, laidKinds := [.listed, .data], laidTests := true, laidLooks := .later }
def OrderCallsCardSaid : Prop := Claim7.holds Tryd.pinned (.plain (OpenSpec.ofChange orderCallsSpec)) orderCallsCard

/-- THE SECOND FORM's CARD OF 'girandolelaw08.FlatDoubles'. -/
def flatDoublesUptoCard : Claim7 := { stood := { row := flatDoublesUptoRow, standIns := [], harness := (true, "75ba6ee586d5909ce3e6d74ec5128fbbecd8bb393127d8ed11b378f03576e586"), looks := true }, kinds := [], alts := [], laidByText := true, laidKinds := [.listed, .data], laidTests := true, laidLooks := .later }
def FlatDoublesUptoCardSaid : Prop := Claim7.holds Tryd.pinned (.plain (OpenSpec.upto flatDoublesSpec)) flatDoublesUptoCard

/-- THE SECOND FORM's CARD OF 'girandolelaw08.FlatClocks'. -/
def flatClocksUptoCard : Claim7 := { stood := { row := flatClocksUptoRow, standIns := [], harness := (true, "75ba6ee586d5909ce3e6d74ec5128fbbecd8bb393127d8ed11b378f03576e586"), looks := true }, kinds := [], alts := [], laidByText := true, laidKinds := [.listed, .data], laidTests := true, laidLooks := .later }
def FlatClocksUptoCardSaid : Prop := Claim7.holds Tryd.pinned (.plain (OpenSpec.upto flatClocksSpec)) flatClocksUptoCard

/-- THE SECOND FORM's CARD OF 'girandolelaw09.OrderChains'. -/
def orderChainsUptoCard : Claim7 := { stood := { row := orderChainsUptoRow, standIns := [], harness := (true, "75ba6ee586d5909ce3e6d74ec5128fbbecd8bb393127d8ed11b378f03576e586"), looks := true }, kinds := [], alts := [], laidByText := true, laidKinds := [.listed, .data], laidTests := true, laidLooks := .later }
def OrderChainsUptoCardSaid : Prop := Claim7.holds Tryd.pinned (.plain (OpenSpec.upto orderChainsSpec)) orderChainsUptoCard

/-- THE SECOND FORM's CARD OF 'girandolelaw09.OrderCalls'. -/
def orderCallsUptoCard : Claim7 := { stood := { row := orderCallsUptoRow, standIns := [], harness := (true, "75ba6ee586d5909ce3e6d74ec5128fbbecd8bb393127d8ed11b378f03576e586"), looks := true }, kinds := [], alts := [], laidByText := true, laidKinds := [.listed, .data], laidTests := true, laidLooks := .later }
def OrderCallsUptoCardSaid : Prop := Claim7.holds Tryd.pinned (.plain (OpenSpec.upto orderCallsSpec)) orderCallsUptoCard
end Rows
end Go.Proofs.YtglacbfdbfhmfaaDoor
