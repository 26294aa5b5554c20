/-
  DERIVED. GIVEN WITH THE SEED: THE CARDS: each row of YtgepgbbjfhggfaaGreatDoorRows.lean that lists a variable, with what it lists TIED to the program's text (the seventh form; the later family's looks); each row that meets fmt, with fmt's text TOLD by the authors' own Lean function (tested against real Go, not proved from fmt's source: count such statements apart). THE CARD IS WHAT COUNTS. Prove the row's statement (the work); the ties are given (YtgepgbbjfhggfaaGreatDoorTie.lean); close each card by the builder's one call (the guide's Derived/Test/ToyasCard.lean, 'card_holds'). Laid BY PROGRAM, IN A SANDBOX (cutbox-door.mjs). By AI agents, Wed Nov 11 2026. No macro, syntax, notation, axiom, sorry.
-/
import Derived.Test.YtgepgbbjfhggfaaGreatDoorRows
import GoSem.ClaimSeven
namespace Go.Proofs.YtgepgbbjfhggfaaGreatDoor
namespace Rows

/-- THE TIED CARD OF 'linotypelaw20.EncodeShort'. -/
def encodeShortCard : Claim7 := { stood := { row := encodeShortRow, standIns := [], harness := (true, "cba7dfbaf22213c56db5eb262d3cbd828e6b2d32ef479e80949e5b5c65f93bd5"), looks := true }, kinds := [], alts := [], laidByText := true, laidKinds := [.pinned, .data, .data, .listed, .sentinel, .sentinel, .data, .data, .data], laidTests := true, laidLooks := .later }
def EncodeShortCardSaid : Prop := Claim7.holds Tryz.pinned (.plain (OpenSpec.ofChange encodeShortSpec)) encodeShortCard

/-- THE TIED CARD OF 'linotypelaw20.EncodeLeast'. -/
def encodeLeastCard : Claim7 := { stood := { row := encodeLeastRow, standIns := [], harness := (true, "cba7dfbaf22213c56db5eb262d3cbd828e6b2d32ef479e80949e5b5c65f93bd5"), looks := true }, kinds := [], alts := [], laidByText := true, laidKinds := [.pinned, .data, .data, .listed, .sentinel, .sentinel, .data, .data, .data], laidTests := true, laidLooks := .later }
def EncodeLeastCardSaid : Prop := Claim7.holds Tryz.pinned (.plain (OpenSpec.ofChange encodeLeastSpec)) encodeLeastCard

/-- THE TIED CARD OF 'linotypelaw20.EncodeSized'. -/
def encodeSizedCard : Claim7 := { stood := { row := encodeSizedRow, standIns := [], harness := (true, "cba7dfbaf22213c56db5eb262d3cbd828e6b2d32ef479e80949e5b5c65f93bd5"), looks := true }, kinds := [], alts := [], laidByText := true, laidKinds := [.pinned, .data, .data, .listed, .sentinel, .sentinel, .data, .data, .data], laidTests := true, laidLooks := .later }
def EncodeSizedCardSaid : Prop := Claim7.holds Tryz.pinned (.plain (OpenSpec.ofChange encodeSizedSpec)) encodeSizedCard

/-- THE TIED CARD OF 'linotypelaw20.EncodeFree'. -/
def encodeFreeCard : Claim7 := { stood := { row := encodeFreeRow, standIns := [], harness := (true, "cba7dfbaf22213c56db5eb262d3cbd828e6b2d32ef479e80949e5b5c65f93bd5"), looks := true }, kinds := [], alts := [], laidByText := true, laidKinds := [.pinned, .data, .data, .listed, .sentinel, .sentinel, .data, .data, .data], laidTests := true, laidLooks := .later }
def EncodeFreeCardSaid : Prop := Claim7.holds Tryz.pinned (.plain (OpenSpec.ofChange encodeFreeSpec)) encodeFreeCard

/-- THE SECOND FORM's CARD OF 'linotypelaw20.EncodeShort'. -/
def encodeShortUptoCard : Claim7 := { stood := { row := encodeShortUptoRow, standIns := [], harness := (true, "cba7dfbaf22213c56db5eb262d3cbd828e6b2d32ef479e80949e5b5c65f93bd5"), looks := true }, kinds := [], alts := [], laidByText := true, laidKinds := [.pinned, .data, .data, .listed, .sentinel, .sentinel, .data, .data, .data], laidTests := true, laidLooks := .later }
def EncodeShortUptoCardSaid : Prop := Claim7.holds Tryz.pinned (.plain (OpenSpec.upto encodeShortSpec)) encodeShortUptoCard

/-- THE SECOND FORM's CARD OF 'linotypelaw20.EncodeLeast'. -/
def encodeLeastUptoCard : Claim7 := { stood := { row := encodeLeastUptoRow, standIns := [], harness := (true, "cba7dfbaf22213c56db5eb262d3cbd828e6b2d32ef479e80949e5b5c65f93bd5"), looks := true }, kinds := [], alts := [], laidByText := true, laidKinds := [.pinned, .data, .data, .listed, .sentinel, .sentinel, .data, .data, .data], laidTests := true, laidLooks := .later }
def EncodeLeastUptoCardSaid : Prop := Claim7.holds Tryz.pinned (.plain (OpenSpec.upto encodeLeastSpec)) encodeLeastUptoCard

/-- THE SECOND FORM's CARD OF 'linotypelaw20.EncodeSized'. -/
def encodeSizedUptoCard : Claim7 := { stood := { row := encodeSizedUptoRow, standIns := [], harness := (true, "cba7dfbaf22213c56db5eb262d3cbd828e6b2d32ef479e80949e5b5c65f93bd5"), looks := true }, kinds := [], alts := [], laidByText := true, laidKinds := [.pinned, .data, .data, .listed, .sentinel, .sentinel, .data, .data, .data], laidTests := true, laidLooks := .later }
def EncodeSizedUptoCardSaid : Prop := Claim7.holds Tryz.pinned (.plain (OpenSpec.upto encodeSizedSpec)) encodeSizedUptoCard

/-- THE SECOND FORM's CARD OF 'linotypelaw20.EncodeFree'. -/
def encodeFreeUptoCard : Claim7 := { stood := { row := encodeFreeUptoRow, standIns := [], harness := (true, "cba7dfbaf22213c56db5eb262d3cbd828e6b2d32ef479e80949e5b5c65f93bd5"), looks := true }, kinds := [], alts := [], laidByText := true, laidKinds := [.pinned, .data, .data, .listed, .sentinel, .sentinel, .data, .data, .data], laidTests := true, laidLooks := .later }
def EncodeFreeUptoCardSaid : Prop := Claim7.holds Tryz.pinned (.plain (OpenSpec.upto encodeFreeSpec)) encodeFreeUptoCard
end Rows
end Go.Proofs.YtgepgbbjfhggfaaGreatDoor
