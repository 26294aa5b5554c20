/-
  DERIVED. GIVEN WITH THE SEED: THE CARDS: each row of YtbkbdnlfkahaaaaGreatDoorRows.lean that lists a variable, with what it lists TIED to the program's text (the seventh form; the later family's looks); each row that meets fmt, with fmt's text TOLD by the authors' own Lean function (tested against real Go, not proved from fmt's source: count such statements apart). THE CARD IS WHAT COUNTS. Prove the row's statement (the work); the ties are given (YtbkbdnlfkahaaaaGreatDoorTie.lean); close each card by the builder's one call (the guide's Derived/Test/ToyasCard.lean, 'card_holds'). Laid BY PROGRAM, IN A SANDBOX (cutbox-door.mjs). By AI agents, Wed Nov 11 2026. No macro, syntax, notation, axiom, sorry.
-/
import Derived.Test.YtbkbdnlfkahaaaaGreatDoorRows
import GoSem.ClaimSeven
namespace Go.Proofs.YtbkbdnlfkahaaaaGreatDoor
namespace Rows

/-- THE TIED CARD OF 'linotypelaw28.AsmTells'. -/
def asmTellsCard : Claim7 := { stood := { row := asmTellsRow, standIns := [], harness := (true, "8acd27f482600c2e0b67c582ec151d4abbfe2bcc284370b5af454613ae69f09a"), looks := true }, kinds := [], alts := [], laidByText := true, laidKinds := [.pinned, .data, .data, .data, .listed, .sentinel, .sentinel, .data, .data, .data], laidTests := true, laidLooks := .later }
def AsmTellsCardSaid : Prop := Claim7.holds Tryz.pinned (.plain (OpenSpec.ofChange asmTellsSpec)) asmTellsCard

/-- THE TIED CARD OF 'linotypelaw28.AsmKnown'. -/
def asmKnownCard : Claim7 := { stood := { row := asmKnownRow, standIns := [], harness := (true, "8acd27f482600c2e0b67c582ec151d4abbfe2bcc284370b5af454613ae69f09a"), looks := true }, kinds := [], alts := [], laidByText := true, laidKinds := [.pinned, .data, .data, .data, .listed, .sentinel, .sentinel, .data, .data, .data], laidTests := true, laidLooks := .later }
def AsmKnownCardSaid : Prop := Claim7.holds Tryz.pinned (.plain (OpenSpec.ofChange asmKnownSpec)) asmKnownCard

/-- THE TIED CARD OF 'linotypelaw28.AsmNops'. -/
def asmNopsCard : Claim7 := { stood := { row := asmNopsRow, standIns := [], harness := (true, "8acd27f482600c2e0b67c582ec151d4abbfe2bcc284370b5af454613ae69f09a"), looks := true }, kinds := [], alts := [], laidByText := true, laidKinds := [.pinned, .data, .data, .data, .listed, .sentinel, .sentinel, .data, .data, .data], laidTests := true, laidLooks := .later }
def AsmNopsCardSaid : Prop := Claim7.holds Tryz.pinned (.plain (OpenSpec.ofChange asmNopsSpec)) asmNopsCard

/-- THE SECOND FORM's CARD OF 'linotypelaw28.AsmTells'. -/
def asmTellsUptoCard : Claim7 := { stood := { row := asmTellsUptoRow, standIns := [], harness := (true, "8acd27f482600c2e0b67c582ec151d4abbfe2bcc284370b5af454613ae69f09a"), looks := true }, kinds := [], alts := [], laidByText := true, laidKinds := [.pinned, .data, .data, .data, .listed, .sentinel, .sentinel, .data, .data, .data], laidTests := true, laidLooks := .later }
def AsmTellsUptoCardSaid : Prop := Claim7.holds Tryz.pinned (.plain (OpenSpec.upto asmTellsSpec)) asmTellsUptoCard

/-- THE SECOND FORM's CARD OF 'linotypelaw28.AsmKnown'. -/
def asmKnownUptoCard : Claim7 := { stood := { row := asmKnownUptoRow, standIns := [], harness := (true, "8acd27f482600c2e0b67c582ec151d4abbfe2bcc284370b5af454613ae69f09a"), looks := true }, kinds := [], alts := [], laidByText := true, laidKinds := [.pinned, .data, .data, .data, .listed, .sentinel, .sentinel, .data, .data, .data], laidTests := true, laidLooks := .later }
def AsmKnownUptoCardSaid : Prop := Claim7.holds Tryz.pinned (.plain (OpenSpec.upto asmKnownSpec)) asmKnownUptoCard

/-- THE SECOND FORM's CARD OF 'linotypelaw28.AsmNops'. -/
def asmNopsUptoCard : Claim7 := { stood := { row := asmNopsUptoRow, standIns := [], harness := (true, "8acd27f482600c2e0b67c582ec151d4abbfe2bcc284370b5af454613ae69f09a"), looks := true }, kinds := [], alts := [], laidByText := true, laidKinds := [.pinned, .data, .data, .data, .listed, .sentinel, .sentinel, .data, .data, .data], laidTests := true, laidLooks := .later }
def AsmNopsUptoCardSaid : Prop := Claim7.holds Tryz.pinned (.plain (OpenSpec.upto asmNopsSpec)) asmNopsUptoCard
end Rows
end Go.Proofs.YtbkbdnlfkahaaaaGreatDoor
