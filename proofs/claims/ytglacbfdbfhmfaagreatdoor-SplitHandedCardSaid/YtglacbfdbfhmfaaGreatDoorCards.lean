/-
  DERIVED. GIVEN WITH THE SEED: THE CARDS: each row of YtglacbfdbfhmfaaGreatDoorRows.lean that lists a variable, with what it lists TIED to the program's text (the seventh form; the later family's looks); each row that meets fmt, with fmt's text TOLD by the authors' own Lean function (tested against real Go, not proved from fmt's source: count such statements apart). THE CARD IS WHAT COUNTS. Prove the row's statement (the work); the ties are given (YtglacbfdbfhmfaaGreatDoorTie.lean); close each card by the builder's one call (the guide's Derived/Test/ToyasCard.lean, 'card_holds'). Laid BY PROGRAM, IN A SANDBOX (cutbox-door.mjs). By AI agents, Wed Nov 11 2026. No macro, syntax, notation, axiom, sorry.
-/
import Derived.Test.YtglacbfdbfhmfaaGreatDoorRows
import GoSem.ClaimSeven
namespace Go.Proofs.YtglacbfdbfhmfaaGreatDoor
namespace Rows

/-- THE TIED CARD OF 'girandolelaw13.BalanceRings'. -/
def balanceRingsCard : Claim7 := { stood := { row := balanceRingsRow, standIns := [], harness := (true, "9d80a072b1da6d49dc8fb4073866eafe56a033b51e3d92ed2386a375febe4624"), looks := true }, kinds := [], alts := [], laidByText := true, laidKinds := [.listed, .data], laidTests := true, laidLooks := .later }
def BalanceRingsCardSaid : Prop := Claim7.holds Tryz.pinned (.plain (OpenSpec.ofChange balanceRingsSpec)) balanceRingsCard

/-- THE TIED CARD OF 'girandolelaw11.SoloRows'. -/
def soloRowsCard : Claim7 := { stood := { row := soloRowsRow, standIns := [], harness := (true, "9d80a072b1da6d49dc8fb4073866eafe56a033b51e3d92ed2386a375febe4624"), looks := true }, kinds := [], alts := [], laidByText := true, laidKinds := [.listed, .data], laidTests := true, laidLooks := .later }
def SoloRowsCardSaid : Prop := Claim7.holds Tryz.pinned (.plain (OpenSpec.ofChange soloRowsSpec)) soloRowsCard

/-- THE TIED CARD OF 'girandolelaw11.SoloClocks'. -/
def soloClocksCard : Claim7 := { stood := { row := soloClocksRow, standIns := [], harness := (true, "9d80a072b1da6d49dc8fb4073866eafe56a033b51e3d92ed2386a375febe4624"), looks := true }, kinds := [], alts := [], laidByText := true, laidKinds := [.listed, .data], laidTests := true, laidLooks := .later }
def SoloClocksCardSaid : Prop := Claim7.holds Tryz.pinned (.plain (OpenSpec.ofChange soloClocksSpec)) soloClocksCard

/-- THE TIED CARD OF 'girandolelaw11.SoloStands'. -/
def soloStandsCard : Claim7 := { stood := { row := soloStandsRow, standIns := [], harness := (true, "9d80a072b1da6d49dc8fb4073866eafe56a033b51e3d92ed2386a375febe4624"), looks := true }, kinds := [], alts := [], laidByText := true, laidKinds := [.listed, .data], laidTests := true, laidLooks := .later }
def SoloStandsCardSaid : Prop := Claim7.holds Tryz.pinned (.plain (OpenSpec.ofChange soloStandsSpec)) soloStandsCard

/-- THE TIED CARD OF 'girandolelaw12.SplitMany'. -/
def splitManyCard : Claim7 := { stood := { row := splitManyRow, standIns := [], harness := (true, "9d80a072b1da6d49dc8fb4073866eafe56a033b51e3d92ed2386a375febe4624"), looks := true }, kinds := [], alts := [], laidByText := true, laidKinds := [.listed, .data], laidTests := true, laidLooks := .later }
def SplitManyCardSaid : Prop := Claim7.holds Tryz.pinned (.plain (OpenSpec.ofChange splitManySpec)) splitManyCard

/-- THE TIED CARD OF 'girandolelaw12.SplitHanded'. -/
def splitHandedCard : Claim7 := { stood := { row := splitHandedRow, standIns := [], harness := (true, "9d80a072b1da6d49dc8fb4073866eafe56a033b51e3d92ed2386a375febe4624"), looks := true }, kinds := [], alts := [], laidByText := true, laidKinds := [.listed, .data], laidTests := true, laidLooks := .later }
def SplitHandedCardSaid : Prop := Claim7.holds Tryz.pinned (.plain (OpenSpec.ofChange splitHandedSpec)) splitHandedCard

/-- THE TIED CARD OF 'girandolelaw19.CompileLong'. -/
def compileLongCard : Claim7 := { stood := { row := compileLongRow, standIns := [], harness := (true, "9d80a072b1da6d49dc8fb4073866eafe56a033b51e3d92ed2386a375febe4624"), looks := true }, kinds := [], alts := [], laidByText := true, laidKinds := [.listed, .data], laidTests := true, laidLooks := .later }
def CompileLongCardSaid : Prop := Claim7.holds Tryz.pinned (.plain (OpenSpec.ofChange compileLongSpec)) compileLongCard

/-- THE SECOND FORM's CARD OF 'girandolelaw13.BalanceRings'. -/
def balanceRingsUptoCard : Claim7 := { stood := { row := balanceRingsUptoRow, standIns := [], harness := (true, "9d80a072b1da6d49dc8fb4073866eafe56a033b51e3d92ed2386a375febe4624"), looks := true }, kinds := [], alts := [], laidByText := true, laidKinds := [.listed, .data], laidTests := true, laidLooks := .later }
def BalanceRingsUptoCardSaid : Prop := Claim7.holds Tryz.pinned (.plain (OpenSpec.upto balanceRingsSpec)) balanceRingsUptoCard

/-- THE SECOND FORM's CARD OF 'girandolelaw11.SoloRows'. -/
def soloRowsUptoCard : Claim7 := { stood := { row := soloRowsUptoRow, standIns := [], harness := (true, "9d80a072b1da6d49dc8fb4073866eafe56a033b51e3d92ed2386a375febe4624"), looks := true }, kinds := [], alts := [], laidByText := true, laidKinds := [.listed, .data], laidTests := true, laidLooks := .later }
def SoloRowsUptoCardSaid : Prop := Claim7.holds Tryz.pinned (.plain (OpenSpec.upto soloRowsSpec)) soloRowsUptoCard

/-- THE SECOND FORM's CARD OF 'girandolelaw11.SoloClocks'. -/
def soloClocksUptoCard : Claim7 := { stood := { row := soloClocksUptoRow, standIns := [], harness := (true, "9d80a072b1da6d49dc8fb4073866eafe56a033b51e3d92ed2386a375febe4624"), looks := true }, kinds := [], alts := [], laidByText := true, laidKinds := [.listed, .data], laidTests := true, laidLooks := .later }
def SoloClocksUptoCardSaid : Prop := Claim7.holds Tryz.pinned (.plain (OpenSpec.upto soloClocksSpec)) soloClocksUptoCard

/-- THE SECOND FORM's CARD OF 'girandolelaw11.SoloStands'. -/
def soloStandsUptoCard : Claim7 := { stood := { row := soloStandsUptoRow, standIns := [], harness := (true, "9d80a072b1da6d49dc8fb4073866eafe56a033b51e3d92ed2386a375febe4624"), looks := true }, kinds := [], alts := [], laidByText := true, laidKinds := [.listed, .data], laidTests := true, laidLooks := .later }
def SoloStandsUptoCardSaid : Prop := Claim7.holds Tryz.pinned (.plain (OpenSpec.upto soloStandsSpec)) soloStandsUptoCard

/-- THE SECOND FORM's CARD OF 'girandolelaw12.SplitMany'. -/
def splitManyUptoCard : Claim7 := { stood := { row := splitManyUptoRow, standIns := [], harness := (true, "9d80a072b1da6d49dc8fb4073866eafe56a033b51e3d92ed2386a375febe4624"), looks := true }, kinds := [], alts := [], laidByText := true, laidKinds := [.listed, .data], laidTests := true, laidLooks := .later }
def SplitManyUptoCardSaid : Prop := Claim7.holds Tryz.pinned (.plain (OpenSpec.upto splitManySpec)) splitManyUptoCard

/-- THE SECOND FORM's CARD OF 'girandolelaw12.SplitHanded'. -/
def splitHandedUptoCard : Claim7 := { stood := { row := splitHandedUptoRow, standIns := [], harness := (true, "9d80a072b1da6d49dc8fb4073866eafe56a033b51e3d92ed2386a375febe4624"), looks := true }, kinds := [], alts := [], laidByText := true, laidKinds := [.listed, .data], laidTests := true, laidLooks := .later }
def SplitHandedUptoCardSaid : Prop := Claim7.holds Tryz.pinned (.plain (OpenSpec.upto splitHandedSpec)) splitHandedUptoCard

/-- THE SECOND FORM's CARD OF 'girandolelaw19.CompileLong'. -/
def compileLongUptoCard : Claim7 := { stood := { row := compileLongUptoRow, standIns := [], harness := (true, "9d80a072b1da6d49dc8fb4073866eafe56a033b51e3d92ed2386a375febe4624"), looks := true }, kinds := [], alts := [], laidByText := true, laidKinds := [.listed, .data], laidTests := true, laidLooks := .later }
def CompileLongUptoCardSaid : Prop := Claim7.holds Tryz.pinned (.plain (OpenSpec.upto compileLongSpec)) compileLongUptoCard
end Rows
end Go.Proofs.YtglacbfdbfhmfaaGreatDoor
