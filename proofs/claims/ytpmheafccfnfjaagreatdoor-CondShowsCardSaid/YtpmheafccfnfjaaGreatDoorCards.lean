/-
  DERIVED. GIVEN WITH THE SEED: THE CARDS: each row of YtpmheafccfnfjaaGreatDoorRows.lean that lists a variable, with what it lists TIED to the program's text (the seventh form; the later family's looks); each row that meets fmt, with fmt's text TOLD by the authors' own Lean function (tested against real Go, not proved from fmt's source: count such statements apart). THE CARD IS WHAT COUNTS. Prove the row's statement (the work); the ties are given (YtpmheafccfnfjaaGreatDoorTie.lean); close each card by the builder's one call (the guide's Derived/Test/ToyasCard.lean, 'card_holds'). Laid BY PROGRAM, IN A SANDBOX (cutbox-door.mjs). By AI agents, Wed Nov 11 2026. No macro, syntax, notation, axiom, sorry.
-/
import Derived.Test.YtpmheafccfnfjaaGreatDoorRows
import GoSem.ClaimSeven
namespace Go.Proofs.YtpmheafccfnfjaaGreatDoor
namespace Rows

/-- THE TIED CARD OF 'ringworklaw02.CondShows'. -/
def condShowsCard : Claim7 := { stood := { row := condShowsRow, standIns := [], harness := (true, "7ea5d9e630d03a6972d1a3ceee59193b855f9172e112f94da4ecdc0d766b790a"), looks := true }, kinds := [], alts := [], laidByText := true, laidKinds := [.data, .data, .data, .sentinel, .sentinel], laidTests := true, laidLooks := .later }
def CondShowsCardSaid : Prop := Claim7.holds Tryz.pinned (.plain (OpenSpec.ofChange condShowsSpec)) condShowsCard

/-- THE TIED CARD OF 'ringworklaw02.CondChecks'. -/
def condChecksCard : Claim7 := { stood := { row := condChecksRow, standIns := [], harness := (true, "7ea5d9e630d03a6972d1a3ceee59193b855f9172e112f94da4ecdc0d766b790a"), looks := true }, kinds := [], alts := [], laidByText := true, laidKinds := [.data, .data, .data, .sentinel, .sentinel], laidTests := true, laidLooks := .later }
def CondChecksCardSaid : Prop := Claim7.holds Tryz.pinned (.plain (OpenSpec.ofChange condChecksSpec)) condChecksCard

/-- THE TIED CARD OF 'ringworklaw02.CondJoins'. -/
def condJoinsCard : Claim7 := { stood := { row := condJoinsRow, standIns := [], harness := (true, "7ea5d9e630d03a6972d1a3ceee59193b855f9172e112f94da4ecdc0d766b790a"), looks := true }, kinds := [], alts := [], laidByText := true, laidKinds := [.data, .data, .data, .sentinel, .sentinel], laidTests := true, laidLooks := .later }
def CondJoinsCardSaid : Prop := Claim7.holds Tryz.pinned (.plain (OpenSpec.ofChange condJoinsSpec)) condJoinsCard

/-- THE TIED CARD OF 'ringworklaw02.CondRenames'. -/
def condRenamesCard : Claim7 := { stood := { row := condRenamesRow, standIns := [], harness := (true, "7ea5d9e630d03a6972d1a3ceee59193b855f9172e112f94da4ecdc0d766b790a"), looks := true }, kinds := [], alts := [], laidByText := true, laidKinds := [.data, .data, .data, .sentinel, .sentinel], laidTests := true, laidLooks := .later }
def CondRenamesCardSaid : Prop := Claim7.holds Tryz.pinned (.plain (OpenSpec.ofChange condRenamesSpec)) condRenamesCard

/-- THE TIED CARD OF 'ringworklaw02.CondBinds'. -/
def condBindsCard : Claim7 := { stood := { row := condBindsRow, standIns := [], harness := (true, "7ea5d9e630d03a6972d1a3ceee59193b855f9172e112f94da4ecdc0d766b790a"), looks := true }, kinds := [], alts := [], laidByText := true, laidKinds := [.data, .data, .data, .sentinel, .sentinel], laidTests := true, laidLooks := .later }
def CondBindsCardSaid : Prop := Claim7.holds Tryz.pinned (.plain (OpenSpec.ofChange condBindsSpec)) condBindsCard

/-- THE TIED CARD OF 'ringworklaw02.CondParts'. -/
def condPartsCard : Claim7 := { stood := { row := condPartsRow, standIns := [], harness := (true, "7ea5d9e630d03a6972d1a3ceee59193b855f9172e112f94da4ecdc0d766b790a"), looks := true }, kinds := [], alts := [], laidByText := true, laidKinds := [.data, .data, .data, .sentinel, .sentinel], laidTests := true, laidLooks := .later }
def CondPartsCardSaid : Prop := Claim7.holds Tryz.pinned (.plain (OpenSpec.ofChange condPartsSpec)) condPartsCard

/-- THE SECOND FORM's CARD OF 'ringworklaw02.CondShows'. -/
def condShowsUptoCard : Claim7 := { stood := { row := condShowsUptoRow, standIns := [], harness := (true, "7ea5d9e630d03a6972d1a3ceee59193b855f9172e112f94da4ecdc0d766b790a"), looks := true }, kinds := [], alts := [], laidByText := true, laidKinds := [.data, .data, .data, .sentinel, .sentinel], laidTests := true, laidLooks := .later }
def CondShowsUptoCardSaid : Prop := Claim7.holds Tryz.pinned (.plain (OpenSpec.upto condShowsSpec)) condShowsUptoCard

/-- THE SECOND FORM's CARD OF 'ringworklaw02.CondChecks'. -/
def condChecksUptoCard : Claim7 := { stood := { row := condChecksUptoRow, standIns := [], harness := (true, "7ea5d9e630d03a6972d1a3ceee59193b855f9172e112f94da4ecdc0d766b790a"), looks := true }, kinds := [], alts := [], laidByText := true, laidKinds := [.data, .data, .data, .sentinel, .sentinel], laidTests := true, laidLooks := .later }
def CondChecksUptoCardSaid : Prop := Claim7.holds Tryz.pinned (.plain (OpenSpec.upto condChecksSpec)) condChecksUptoCard

/-- THE SECOND FORM's CARD OF 'ringworklaw02.CondJoins'. -/
def condJoinsUptoCard : Claim7 := { stood := { row := condJoinsUptoRow, standIns := [], harness := (true, "7ea5d9e630d03a6972d1a3ceee59193b855f9172e112f94da4ecdc0d766b790a"), looks := true }, kinds := [], alts := [], laidByText := true, laidKinds := [.data, .data, .data, .sentinel, .sentinel], laidTests := true, laidLooks := .later }
def CondJoinsUptoCardSaid : Prop := Claim7.holds Tryz.pinned (.plain (OpenSpec.upto condJoinsSpec)) condJoinsUptoCard

/-- THE SECOND FORM's CARD OF 'ringworklaw02.CondRenames'. -/
def condRenamesUptoCard : Claim7 := { stood := { row := condRenamesUptoRow, standIns := [], harness := (true, "7ea5d9e630d03a6972d1a3ceee59193b855f9172e112f94da4ecdc0d766b790a"), looks := true }, kinds := [], alts := [], laidByText := true, laidKinds := [.data, .data, .data, .sentinel, .sentinel], laidTests := true, laidLooks := .later }
def CondRenamesUptoCardSaid : Prop := Claim7.holds Tryz.pinned (.plain (OpenSpec.upto condRenamesSpec)) condRenamesUptoCard

/-- THE SECOND FORM's CARD OF 'ringworklaw02.CondBinds'. -/
def condBindsUptoCard : Claim7 := { stood := { row := condBindsUptoRow, standIns := [], harness := (true, "7ea5d9e630d03a6972d1a3ceee59193b855f9172e112f94da4ecdc0d766b790a"), looks := true }, kinds := [], alts := [], laidByText := true, laidKinds := [.data, .data, .data, .sentinel, .sentinel], laidTests := true, laidLooks := .later }
def CondBindsUptoCardSaid : Prop := Claim7.holds Tryz.pinned (.plain (OpenSpec.upto condBindsSpec)) condBindsUptoCard

/-- THE SECOND FORM's CARD OF 'ringworklaw02.CondParts'. -/
def condPartsUptoCard : Claim7 := { stood := { row := condPartsUptoRow, standIns := [], harness := (true, "7ea5d9e630d03a6972d1a3ceee59193b855f9172e112f94da4ecdc0d766b790a"), looks := true }, kinds := [], alts := [], laidByText := true, laidKinds := [.data, .data, .data, .sentinel, .sentinel], laidTests := true, laidLooks := .later }
def CondPartsUptoCardSaid : Prop := Claim7.holds Tryz.pinned (.plain (OpenSpec.upto condPartsSpec)) condPartsUptoCard
end Rows
end Go.Proofs.YtpmheafccfnfjaaGreatDoor
