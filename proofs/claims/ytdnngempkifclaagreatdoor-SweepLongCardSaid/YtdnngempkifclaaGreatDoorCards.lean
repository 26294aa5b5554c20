/-
  DERIVED. GIVEN WITH THE SEED: THE CARDS: each row of YtdnngempkifclaaGreatDoorRows.lean that lists a variable, with what it lists TIED to the program's text (the seventh form; the later family's looks); each row that meets fmt, with fmt's text TOLD by the authors' own Lean function (tested against real Go, not proved from fmt's source: count such statements apart). THE CARD IS WHAT COUNTS. Prove the row's statement (the work); the ties are given (YtdnngempkifclaaGreatDoorTie.lean); close each card by the builder's one call (the guide's Derived/Test/ToyasCard.lean, 'card_holds'). Laid BY PROGRAM, IN A SANDBOX (cutbox-door.mjs). By AI agents, Wed Nov 11 2026. No macro, syntax, notation, axiom, sorry.
-/
import Derived.Test.YtdnngempkifclaaGreatDoorRows
import GoSem.ClaimSeven
namespace Go.Proofs.YtdnngempkifclaaGreatDoor
namespace Rows

/-- THE TIED CARD OF 'linotypelaw20.EncodeKnown'. -/
def encodeKnownCard : Claim7 := { stood := { row := encodeKnownRow, standIns := [], harness := (true, "69fa8637d81f2259b6c6a8e047e2b22501e9cb0242b1864a35d05554653c8cd0"), looks := true }, kinds := [], alts := [], laidByText := true, laidKinds := [.data, .data, .data, .data, .sentinel, .sentinel, .listed, .data, .pinned], laidTests := true, laidLooks := .later }
def EncodeKnownCardSaid : Prop := Claim7.holds Tryz.pinned (.plain (OpenSpec.ofChange encodeKnownSpec)) encodeKnownCard

/-- THE TIED CARD OF 'linotypelaw30.SweepLong'. -/
def sweepLongCard : Claim7 := { stood := { row := sweepLongRow, standIns := [], harness := (true, "69fa8637d81f2259b6c6a8e047e2b22501e9cb0242b1864a35d05554653c8cd0"), looks := true }, kinds := [], alts := [], laidByText := true, laidKinds := [.data, .data, .data, .data, .sentinel, .sentinel, .listed, .data, .pinned], laidTests := true, laidLooks := .later }
def SweepLongCardSaid : Prop := Claim7.holds Tryz.pinned (.plain (OpenSpec.ofChange sweepLongSpec)) sweepLongCard

/-- THE TIED CARD OF 'linotypelaw30.SweepKnown'. -/
def sweepKnownCard : Claim7 := { stood := { row := sweepKnownRow, standIns := [], harness := (true, "69fa8637d81f2259b6c6a8e047e2b22501e9cb0242b1864a35d05554653c8cd0"), looks := true }, kinds := [], alts := [], laidByText := true, laidKinds := [.data, .data, .data, .data, .sentinel, .sentinel, .listed, .data, .pinned], laidTests := true, laidLooks := .later }
def SweepKnownCardSaid : Prop := Claim7.holds Tryz.pinned (.plain (OpenSpec.ofChange sweepKnownSpec)) sweepKnownCard

/-- THE SECOND FORM's CARD OF 'linotypelaw20.EncodeKnown'. -/
def encodeKnownUptoCard : Claim7 := { stood := { row := encodeKnownUptoRow, standIns := [], harness := (true, "69fa8637d81f2259b6c6a8e047e2b22501e9cb0242b1864a35d05554653c8cd0"), looks := true }, kinds := [], alts := [], laidByText := true, laidKinds := [.data, .data, .data, .data, .sentinel, .sentinel, .listed, .data, .pinned], laidTests := true, laidLooks := .later }
def EncodeKnownUptoCardSaid : Prop := Claim7.holds Tryz.pinned (.plain (OpenSpec.upto encodeKnownSpec)) encodeKnownUptoCard

/-- THE SECOND FORM's CARD OF 'linotypelaw30.SweepLong'. -/
def sweepLongUptoCard : Claim7 := { stood := { row := sweepLongUptoRow, standIns := [], harness := (true, "69fa8637d81f2259b6c6a8e047e2b22501e9cb0242b1864a35d05554653c8cd0"), looks := true }, kinds := [], alts := [], laidByText := true, laidKinds := [.data, .data, .data, .data, .sentinel, .sentinel, .listed, .data, .pinned], laidTests := true, laidLooks := .later }
def SweepLongUptoCardSaid : Prop := Claim7.holds Tryz.pinned (.plain (OpenSpec.upto sweepLongSpec)) sweepLongUptoCard

/-- THE SECOND FORM's CARD OF 'linotypelaw30.SweepKnown'. -/
def sweepKnownUptoCard : Claim7 := { stood := { row := sweepKnownUptoRow, standIns := [], harness := (true, "69fa8637d81f2259b6c6a8e047e2b22501e9cb0242b1864a35d05554653c8cd0"), looks := true }, kinds := [], alts := [], laidByText := true, laidKinds := [.data, .data, .data, .data, .sentinel, .sentinel, .listed, .data, .pinned], laidTests := true, laidLooks := .later }
def SweepKnownUptoCardSaid : Prop := Claim7.holds Tryz.pinned (.plain (OpenSpec.upto sweepKnownSpec)) sweepKnownUptoCard
end Rows
end Go.Proofs.YtdnngempkifclaaGreatDoor
