/-
  DERIVED. GIVEN WITH THE SEED: THE CARDS: each row of YtmedjaegakinnaaGreatDoorRows.lean that lists a variable, with what it lists TIED to the program's text (the seventh form; the later family's looks); each row that meets fmt, with fmt's text TOLD by the authors' own Lean function (tested against real Go, not proved from fmt's source: count such statements apart). THE CARD IS WHAT COUNTS. Prove the row's statement (the work); the ties are given (YtmedjaegakinnaaGreatDoorTie.lean); close each card by the builder's one call (the guide's Derived/Test/ToyasCard.lean, 'card_holds'). Laid BY PROGRAM, IN A SANDBOX (cutbox-door.mjs). By AI agents, Wed Nov 11 2026. No macro, syntax, notation, axiom, sorry.
-/
import Derived.Test.YtmedjaegakinnaaGreatDoorRows
import GoSem.ClaimSeven
namespace Go.Proofs.YtmedjaegakinnaaGreatDoor
namespace Rows

/-- THE TIED CARD OF 'linotypelaw21.DecodeFound'. -/
def decodeFoundCard : Claim7 := { stood := { row := decodeFoundRow, standIns := [], harness := (true, "7a503bfb328ae03b4d076e71c67822d5b6cfe90b18a32fa21a251e658f97ad43"), looks := true }, kinds := [], alts := [], laidByText := true, laidKinds := [.data, .data, .data, .data, .sentinel, .sentinel, .listed, .data, .pinned], laidTests := true, laidLooks := .later }
def DecodeFoundCardSaid : Prop := Claim7.holds Tryz.pinned (.plain (OpenSpec.ofChange decodeFoundSpec)) decodeFoundCard

/-- THE TIED CARD OF 'linotypelaw21.DecodeBack'. -/
def decodeBackCard : Claim7 := { stood := { row := decodeBackRow, standIns := [], harness := (true, "7a503bfb328ae03b4d076e71c67822d5b6cfe90b18a32fa21a251e658f97ad43"), looks := true }, kinds := [], alts := [], laidByText := true, laidKinds := [.data, .data, .data, .data, .sentinel, .sentinel, .listed, .data, .pinned], laidTests := true, laidLooks := .later }
def DecodeBackCardSaid : Prop := Claim7.holds Tryz.pinned (.plain (OpenSpec.ofChange decodeBackSpec)) decodeBackCard

/-- THE SECOND FORM's CARD OF 'linotypelaw21.DecodeFound'. -/
def decodeFoundUptoCard : Claim7 := { stood := { row := decodeFoundUptoRow, standIns := [], harness := (true, "7a503bfb328ae03b4d076e71c67822d5b6cfe90b18a32fa21a251e658f97ad43"), looks := true }, kinds := [], alts := [], laidByText := true, laidKinds := [.data, .data, .data, .data, .sentinel, .sentinel, .listed, .data, .pinned], laidTests := true, laidLooks := .later }
def DecodeFoundUptoCardSaid : Prop := Claim7.holds Tryz.pinned (.plain (OpenSpec.upto decodeFoundSpec)) decodeFoundUptoCard

/-- THE SECOND FORM's CARD OF 'linotypelaw21.DecodeBack'. -/
def decodeBackUptoCard : Claim7 := { stood := { row := decodeBackUptoRow, standIns := [], harness := (true, "7a503bfb328ae03b4d076e71c67822d5b6cfe90b18a32fa21a251e658f97ad43"), looks := true }, kinds := [], alts := [], laidByText := true, laidKinds := [.data, .data, .data, .data, .sentinel, .sentinel, .listed, .data, .pinned], laidTests := true, laidLooks := .later }
def DecodeBackUptoCardSaid : Prop := Claim7.holds Tryz.pinned (.plain (OpenSpec.upto decodeBackSpec)) decodeBackUptoCard
end Rows
end Go.Proofs.YtmedjaegakinnaaGreatDoor
