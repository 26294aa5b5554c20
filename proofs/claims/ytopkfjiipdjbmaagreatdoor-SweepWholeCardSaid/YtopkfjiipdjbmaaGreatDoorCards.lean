/-
  DERIVED. GIVEN WITH THE SEED: THE CARDS: each row of YtopkfjiipdjbmaaGreatDoorRows.lean that lists a variable, with what it lists TIED to the program's text (the seventh form; the later family's looks); each row that meets fmt, with fmt's text TOLD by the authors' own Lean function (tested against real Go, not proved from fmt's source: count such statements apart). THE CARD IS WHAT COUNTS. Prove the row's statement (the work); the ties are given (YtopkfjiipdjbmaaGreatDoorTie.lean); close each card by the builder's one call (the guide's Derived/Test/ToyasCard.lean, 'card_holds'). Laid BY PROGRAM, IN A SANDBOX (cutbox-door.mjs). By AI agents, Wed Nov 11 2026. No macro, syntax, notation, axiom, sorry.
-/
import Derived.Test.YtopkfjiipdjbmaaGreatDoorRows
import GoSem.ClaimSeven
namespace Go.Proofs.YtopkfjiipdjbmaaGreatDoor
namespace Rows

/-- THE TIED CARD OF 'linotypelaw30.SweepWhole'. -/
def sweepWholeCard : Claim7 := { stood := { row := sweepWholeRow, standIns := [], harness := (true, "e5ba21f77a67470d659be449d7bbee8ddb44f9eda6a4903ef6007b9fad9afe0b"), looks := true }, kinds := [], alts := [], laidByText := true, laidKinds := [.data, .data, .data, .data, .sentinel, .sentinel, .listed, .data, .pinned], laidTests := true, laidLooks := .later }
def SweepWholeCardSaid : Prop := Claim7.holds Tryz.pinned (.plain (OpenSpec.ofChange sweepWholeSpec)) sweepWholeCard

/-- THE TIED CARD OF 'linotypelaw30.SweepOn'. -/
def sweepOnCard : Claim7 := { stood := { row := sweepOnRow, standIns := [], harness := (true, "e5ba21f77a67470d659be449d7bbee8ddb44f9eda6a4903ef6007b9fad9afe0b"), looks := true }, kinds := [], alts := [], laidByText := true, laidKinds := [.data, .data, .data, .data, .sentinel, .sentinel, .listed, .data, .pinned], laidTests := true, laidLooks := .later }
def SweepOnCardSaid : Prop := Claim7.holds Tryz.pinned (.plain (OpenSpec.ofChange sweepOnSpec)) sweepOnCard

/-- THE SECOND FORM's CARD OF 'linotypelaw30.SweepWhole'. -/
def sweepWholeUptoCard : Claim7 := { stood := { row := sweepWholeUptoRow, standIns := [], harness := (true, "e5ba21f77a67470d659be449d7bbee8ddb44f9eda6a4903ef6007b9fad9afe0b"), looks := true }, kinds := [], alts := [], laidByText := true, laidKinds := [.data, .data, .data, .data, .sentinel, .sentinel, .listed, .data, .pinned], laidTests := true, laidLooks := .later }
def SweepWholeUptoCardSaid : Prop := Claim7.holds Tryz.pinned (.plain (OpenSpec.upto sweepWholeSpec)) sweepWholeUptoCard

/-- THE SECOND FORM's CARD OF 'linotypelaw30.SweepOn'. -/
def sweepOnUptoCard : Claim7 := { stood := { row := sweepOnUptoRow, standIns := [], harness := (true, "e5ba21f77a67470d659be449d7bbee8ddb44f9eda6a4903ef6007b9fad9afe0b"), looks := true }, kinds := [], alts := [], laidByText := true, laidKinds := [.data, .data, .data, .data, .sentinel, .sentinel, .listed, .data, .pinned], laidTests := true, laidLooks := .later }
def SweepOnUptoCardSaid : Prop := Claim7.holds Tryz.pinned (.plain (OpenSpec.upto sweepOnSpec)) sweepOnUptoCard
end Rows
end Go.Proofs.YtopkfjiipdjbmaaGreatDoor
