/-
  DERIVED. GIVEN WITH THE SEED: THE CARDS: each row of YtgbdkammehhchaaDoorRows.lean that lists a variable, with what it lists TIED to the program's text (the seventh form; the later family's looks); each row that meets fmt, with fmt's text TOLD by the authors' own Lean function (tested against real Go, not proved from fmt's source: count such statements apart). THE CARD IS WHAT COUNTS. Prove the row's statement (the work); the ties are given (YtgbdkammehhchaaDoorTie.lean); close each card by the builder's one call (the guide's Derived/Test/ToyasCard.lean, 'card_holds'). Laid BY PROGRAM, IN A SANDBOX (cutbox-door.mjs). By AI agents, Wed Nov 11 2026. No macro, syntax, notation, axiom, sorry.
-/
import Derived.Test.YtgbdkammehhchaaDoorRows
import GoSem.ClaimSeven
namespace Go.Proofs.YtgbdkammehhchaaDoor
namespace Rows

/-- THE TIED CARD OF 'linotypelaw31.ListingBack'. -/
def listingBackCard : Claim7 := { stood := { row := listingBackRow, standIns := [], harness := (true, "6658d72b36712123482661b5c4ce508e518af57e7264ba73d0e03be49deb83a4"), looks := false }, kinds := [], alts := [], laidByText := true, laidKinds := [.data, .data, .data, .data, .pinned], laidTests := true, laidLooks := .later }
def ListingBackCardSaid : Prop := Claim7.holds Tryd.pinned (.plain (OpenSpec.ofChange listingBackSpec)) listingBackCard

/-- THE TIED CARD OF 'linotypelaw31.ListingKnown'. -/
def listingKnownCard : Claim7 := { stood := { row := listingKnownRow, standIns := [], harness := (true, "6658d72b36712123482661b5c4ce508e518af57e7264ba73d0e03be49deb83a4"), looks := false }, kinds := [], alts := [], laidByText := true, laidKinds := [.data, .data, .data, .data, .pinned], laidTests := true, laidLooks := .later }
def ListingKnownCardSaid : Prop := Claim7.holds Tryd.pinned (.plain (OpenSpec.ofChange listingKnownSpec)) listingKnownCard

/-- THE SECOND FORM's CARD OF 'linotypelaw31.ListingBack'. -/
def listingBackUptoCard : Claim7 := { stood := { row := listingBackUptoRow, standIns := [], harness := (true, "6658d72b36712123482661b5c4ce508e518af57e7264ba73d0e03be49deb83a4"), looks := false }, kinds := [], alts := [], laidByText := true, laidKinds := [.data, .data, .data, .data, .pinned], laidTests := true, laidLooks := .later }
def ListingBackUptoCardSaid : Prop := Claim7.holds Tryd.pinned (.plain (OpenSpec.upto listingBackSpec)) listingBackUptoCard

/-- THE SECOND FORM's CARD OF 'linotypelaw31.ListingKnown'. -/
def listingKnownUptoCard : Claim7 := { stood := { row := listingKnownUptoRow, standIns := [], harness := (true, "6658d72b36712123482661b5c4ce508e518af57e7264ba73d0e03be49deb83a4"), looks := false }, kinds := [], alts := [], laidByText := true, laidKinds := [.data, .data, .data, .data, .pinned], laidTests := true, laidLooks := .later }
def ListingKnownUptoCardSaid : Prop := Claim7.holds Tryd.pinned (.plain (OpenSpec.upto listingKnownSpec)) listingKnownUptoCard
end Rows
end Go.Proofs.YtgbdkammehhchaaDoor
