/-
  DERIVED. GIVEN WITH THE SEED: THE CARDS: each row of YtiepokkmhhginaaGreatDoorRows.lean that lists a variable, with what it lists TIED to the program's text (the seventh form; the later family's looks); each row that meets fmt, with fmt's text TOLD by the authors' own Lean function (tested against real Go, not proved from fmt's source: count such statements apart). THE CARD IS WHAT COUNTS. Prove the row's statement (the work); the ties are given (YtiepokkmhhginaaGreatDoorTie.lean); close each card by the builder's one call (the guide's Derived/Test/ToyasCard.lean, 'card_holds'). Laid BY PROGRAM, IN A SANDBOX (cutbox-door.mjs). By AI agents, Wed Nov 11 2026. No macro, syntax, notation, axiom, sorry.
-/
import Derived.Test.YtiepokkmhhginaaGreatDoorRows
import GoSem.ClaimSeven
namespace Go.Proofs.YtiepokkmhhginaaGreatDoor
namespace Rows

/-- THE TIED CARD OF 'linotypelaw29.PrintSame'. -/
def printSameCard : Claim7 := { stood := { row := printSameRow, standIns := [], harness := (true, "3d0fea4976e4f4c24a76adf120768c46a160b01a1e79dc723b3c2e93fd6bd36e"), looks := true }, kinds := [], alts := [], laidByText := true, laidKinds := [.data, .data, .data, .data, .sentinel, .sentinel, .listed, .data, .pinned], laidTests := true, laidLooks := .later }
def PrintSameCardSaid : Prop := Claim7.holds Tryz.pinned (.plain (OpenSpec.ofChange printSameSpec)) printSameCard

/-- THE SECOND FORM's CARD OF 'linotypelaw29.PrintSame'. -/
def printSameUptoCard : Claim7 := { stood := { row := printSameUptoRow, standIns := [], harness := (true, "3d0fea4976e4f4c24a76adf120768c46a160b01a1e79dc723b3c2e93fd6bd36e"), looks := true }, kinds := [], alts := [], laidByText := true, laidKinds := [.data, .data, .data, .data, .sentinel, .sentinel, .listed, .data, .pinned], laidTests := true, laidLooks := .later }
def PrintSameUptoCardSaid : Prop := Claim7.holds Tryz.pinned (.plain (OpenSpec.upto printSameSpec)) printSameUptoCard
end Rows
end Go.Proofs.YtiepokkmhhginaaGreatDoor
