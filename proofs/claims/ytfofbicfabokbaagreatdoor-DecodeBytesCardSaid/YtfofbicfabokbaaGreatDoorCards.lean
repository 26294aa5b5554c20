/-
  DERIVED. GIVEN WITH THE SEED: THE CARDS: each row of YtfofbicfabokbaaGreatDoorRows.lean that lists a variable, with what it lists TIED to the program's text (the seventh form; the later family's looks); each row that meets fmt, with fmt's text TOLD by the authors' own Lean function (tested against real Go, not proved from fmt's source: count such statements apart). THE CARD IS WHAT COUNTS. Prove the row's statement (the work); the ties are given (YtfofbicfabokbaaGreatDoorTie.lean); close each card by the builder's one call (the guide's Derived/Test/ToyasCard.lean, 'card_holds'). Laid BY PROGRAM, IN A SANDBOX (cutbox-door.mjs). By AI agents, Wed Nov 11 2026. No macro, syntax, notation, axiom, sorry.
-/
import Derived.Test.YtfofbicfabokbaaGreatDoorRows
import GoSem.ClaimSeven
namespace Go.Proofs.YtfofbicfabokbaaGreatDoor
namespace Rows

/-- THE TIED CARD OF 'linotypelaw21.DecodeBytes'. -/
def decodeBytesCard : Claim7 := { stood := { row := decodeBytesRow, standIns := [], harness := (true, "e6894347762d25e5ffc257c2bdcdc028e9d5b22b6fd8af003ff4ac8629351011"), looks := true }, kinds := [], alts := [], laidByText := true, laidKinds := [.data, .data, .data, .data, .sentinel, .sentinel, .listed, .data, .pinned], laidTests := true, laidLooks := .later }
def DecodeBytesCardSaid : Prop := Claim7.holds Tryz.pinned (.plain (OpenSpec.ofChange decodeBytesSpec)) decodeBytesCard

/-- THE TIED CARD OF 'linotypelaw21.DecodeBy'. -/
def decodeByCard : Claim7 := { stood := { row := decodeByRow, standIns := [], harness := (true, "e6894347762d25e5ffc257c2bdcdc028e9d5b22b6fd8af003ff4ac8629351011"), looks := true }, kinds := [], alts := [], laidByText := true, laidKinds := [.data, .data, .data, .data, .sentinel, .sentinel, .listed, .data, .pinned], laidTests := true, laidLooks := .later }
def DecodeByCardSaid : Prop := Claim7.holds Tryz.pinned (.plain (OpenSpec.ofChange decodeBySpec)) decodeByCard

/-- THE TIED CARD OF 'linotypelaw21.DecodeKnown'. -/
def decodeKnownCard : Claim7 := { stood := { row := decodeKnownRow, standIns := [], harness := (true, "e6894347762d25e5ffc257c2bdcdc028e9d5b22b6fd8af003ff4ac8629351011"), looks := true }, kinds := [], alts := [], laidByText := true, laidKinds := [.data, .data, .data, .data, .sentinel, .sentinel, .listed, .data, .pinned], laidTests := true, laidLooks := .later }
def DecodeKnownCardSaid : Prop := Claim7.holds Tryz.pinned (.plain (OpenSpec.ofChange decodeKnownSpec)) decodeKnownCard

/-- THE TIED CARD OF 'linotypelaw21.DecodeOne'. -/
def decodeOneCard : Claim7 := { stood := { row := decodeOneRow, standIns := [], harness := (true, "e6894347762d25e5ffc257c2bdcdc028e9d5b22b6fd8af003ff4ac8629351011"), looks := true }, kinds := [], alts := [], laidByText := true, laidKinds := [.data, .data, .data, .data, .sentinel, .sentinel, .listed, .data, .pinned], laidTests := true, laidLooks := .later }
def DecodeOneCardSaid : Prop := Claim7.holds Tryz.pinned (.plain (OpenSpec.ofChange decodeOneSpec)) decodeOneCard

/-- THE SECOND FORM's CARD OF 'linotypelaw21.DecodeBytes'. -/
def decodeBytesUptoCard : Claim7 := { stood := { row := decodeBytesUptoRow, standIns := [], harness := (true, "e6894347762d25e5ffc257c2bdcdc028e9d5b22b6fd8af003ff4ac8629351011"), looks := true }, kinds := [], alts := [], laidByText := true, laidKinds := [.data, .data, .data, .data, .sentinel, .sentinel, .listed, .data, .pinned], laidTests := true, laidLooks := .later }
def DecodeBytesUptoCardSaid : Prop := Claim7.holds Tryz.pinned (.plain (OpenSpec.upto decodeBytesSpec)) decodeBytesUptoCard

/-- THE SECOND FORM's CARD OF 'linotypelaw21.DecodeBy'. -/
def decodeByUptoCard : Claim7 := { stood := { row := decodeByUptoRow, standIns := [], harness := (true, "e6894347762d25e5ffc257c2bdcdc028e9d5b22b6fd8af003ff4ac8629351011"), looks := true }, kinds := [], alts := [], laidByText := true, laidKinds := [.data, .data, .data, .data, .sentinel, .sentinel, .listed, .data, .pinned], laidTests := true, laidLooks := .later }
def DecodeByUptoCardSaid : Prop := Claim7.holds Tryz.pinned (.plain (OpenSpec.upto decodeBySpec)) decodeByUptoCard

/-- THE SECOND FORM's CARD OF 'linotypelaw21.DecodeKnown'. -/
def decodeKnownUptoCard : Claim7 := { stood := { row := decodeKnownUptoRow, standIns := [], harness := (true, "e6894347762d25e5ffc257c2bdcdc028e9d5b22b6fd8af003ff4ac8629351011"), looks := true }, kinds := [], alts := [], laidByText := true, laidKinds := [.data, .data, .data, .data, .sentinel, .sentinel, .listed, .data, .pinned], laidTests := true, laidLooks := .later }
def DecodeKnownUptoCardSaid : Prop := Claim7.holds Tryz.pinned (.plain (OpenSpec.upto decodeKnownSpec)) decodeKnownUptoCard

/-- THE SECOND FORM's CARD OF 'linotypelaw21.DecodeOne'. -/
def decodeOneUptoCard : Claim7 := { stood := { row := decodeOneUptoRow, standIns := [], harness := (true, "e6894347762d25e5ffc257c2bdcdc028e9d5b22b6fd8af003ff4ac8629351011"), looks := true }, kinds := [], alts := [], laidByText := true, laidKinds := [.data, .data, .data, .data, .sentinel, .sentinel, .listed, .data, .pinned], laidTests := true, laidLooks := .later }
def DecodeOneUptoCardSaid : Prop := Claim7.holds Tryz.pinned (.plain (OpenSpec.upto decodeOneSpec)) decodeOneUptoCard
end Rows
end Go.Proofs.YtfofbicfabokbaaGreatDoor
