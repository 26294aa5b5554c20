/-
  DERIVED. GIVEN WITH THE SEED: THE CARDS: each row of YtkoecjmmphmdeaaGreatDoorRows.lean that lists a variable, with what it lists TIED to the program's text (the seventh form; the later family's looks); each row that meets fmt, with fmt's text TOLD by the authors' own Lean function (tested against real Go, not proved from fmt's source: count such statements apart). THE CARD IS WHAT COUNTS. Prove the row's statement (the work); the ties are given (YtkoecjmmphmdeaaGreatDoorTie.lean); close each card by the builder's one call (the guide's Derived/Test/ToyasCard.lean, 'card_holds'). Laid BY PROGRAM, IN A SANDBOX (cutbox-door.mjs). By AI agents, Wed Nov 11 2026. No macro, syntax, notation, axiom, sorry.
-/
import Derived.Test.YtkoecjmmphmdeaaGreatDoorRows
import GoSem.ClaimSeven
namespace Go.Proofs.YtkoecjmmphmdeaaGreatDoor
namespace Rows

/-- THE TIED CARD OF 'linotypelaw19.TableFinds'. -/
def tableFindsCard : Claim7 := { stood := { row := tableFindsRow, standIns := [], harness := (true, "240b0f9530c23ebc65fca5a38e42e2213cf6a3e3aaa5a101050eda9f7c4f0f2d"), looks := true }, kinds := [], alts := [], laidByText := true, laidKinds := [.data, .data, .data, .data, .sentinel, .sentinel, .listed, .data, .pinned], laidTests := true, laidLooks := .later }
def TableFindsCardSaid : Prop := Claim7.holds Tryz.pinned (.plain (OpenSpec.ofChange tableFindsSpec)) tableFindsCard

/-- THE TIED CARD OF 'linotypelaw19.TableKnown'. -/
def tableKnownCard : Claim7 := { stood := { row := tableKnownRow, standIns := [], harness := (true, "240b0f9530c23ebc65fca5a38e42e2213cf6a3e3aaa5a101050eda9f7c4f0f2d"), looks := true }, kinds := [], alts := [], laidByText := true, laidKinds := [.data, .data, .data, .data, .sentinel, .sentinel, .listed, .data, .pinned], laidTests := true, laidLooks := .later }
def TableKnownCardSaid : Prop := Claim7.holds Tryz.pinned (.plain (OpenSpec.ofChange tableKnownSpec)) tableKnownCard

/-- THE TIED CARD OF 'linotypelaw19.TableFor'. -/
def tableForCard : Claim7 := { stood := { row := tableForRow, standIns := [], harness := (true, "240b0f9530c23ebc65fca5a38e42e2213cf6a3e3aaa5a101050eda9f7c4f0f2d"), looks := true }, kinds := [], alts := [], laidByText := true, laidKinds := [.data, .data, .data, .data, .sentinel, .sentinel, .listed, .data, .pinned], laidTests := true, laidLooks := .later }
def TableForCardSaid : Prop := Claim7.holds Tryz.pinned (.plain (OpenSpec.ofChange tableForSpec)) tableForCard

/-- THE TIED CARD OF 'linotypelaw19.TableApart'. -/
def tableApartCard : Claim7 := { stood := { row := tableApartRow, standIns := [], harness := (true, "240b0f9530c23ebc65fca5a38e42e2213cf6a3e3aaa5a101050eda9f7c4f0f2d"), looks := true }, kinds := [], alts := [], laidByText := true, laidKinds := [.data, .data, .data, .data, .sentinel, .sentinel, .listed, .data, .pinned], laidTests := true, laidLooks := .later }
def TableApartCardSaid : Prop := Claim7.holds Tryz.pinned (.plain (OpenSpec.ofChange tableApartSpec)) tableApartCard

/-- THE SECOND FORM's CARD OF 'linotypelaw19.TableFinds'. -/
def tableFindsUptoCard : Claim7 := { stood := { row := tableFindsUptoRow, standIns := [], harness := (true, "240b0f9530c23ebc65fca5a38e42e2213cf6a3e3aaa5a101050eda9f7c4f0f2d"), looks := true }, kinds := [], alts := [], laidByText := true, laidKinds := [.data, .data, .data, .data, .sentinel, .sentinel, .listed, .data, .pinned], laidTests := true, laidLooks := .later }
def TableFindsUptoCardSaid : Prop := Claim7.holds Tryz.pinned (.plain (OpenSpec.upto tableFindsSpec)) tableFindsUptoCard

/-- THE SECOND FORM's CARD OF 'linotypelaw19.TableKnown'. -/
def tableKnownUptoCard : Claim7 := { stood := { row := tableKnownUptoRow, standIns := [], harness := (true, "240b0f9530c23ebc65fca5a38e42e2213cf6a3e3aaa5a101050eda9f7c4f0f2d"), looks := true }, kinds := [], alts := [], laidByText := true, laidKinds := [.data, .data, .data, .data, .sentinel, .sentinel, .listed, .data, .pinned], laidTests := true, laidLooks := .later }
def TableKnownUptoCardSaid : Prop := Claim7.holds Tryz.pinned (.plain (OpenSpec.upto tableKnownSpec)) tableKnownUptoCard

/-- THE SECOND FORM's CARD OF 'linotypelaw19.TableFor'. -/
def tableForUptoCard : Claim7 := { stood := { row := tableForUptoRow, standIns := [], harness := (true, "240b0f9530c23ebc65fca5a38e42e2213cf6a3e3aaa5a101050eda9f7c4f0f2d"), looks := true }, kinds := [], alts := [], laidByText := true, laidKinds := [.data, .data, .data, .data, .sentinel, .sentinel, .listed, .data, .pinned], laidTests := true, laidLooks := .later }
def TableForUptoCardSaid : Prop := Claim7.holds Tryz.pinned (.plain (OpenSpec.upto tableForSpec)) tableForUptoCard

/-- THE SECOND FORM's CARD OF 'linotypelaw19.TableApart'. -/
def tableApartUptoCard : Claim7 := { stood := { row := tableApartUptoRow, standIns := [], harness := (true, "240b0f9530c23ebc65fca5a38e42e2213cf6a3e3aaa5a101050eda9f7c4f0f2d"), looks := true }, kinds := [], alts := [], laidByText := true, laidKinds := [.data, .data, .data, .data, .sentinel, .sentinel, .listed, .data, .pinned], laidTests := true, laidLooks := .later }
def TableApartUptoCardSaid : Prop := Claim7.holds Tryz.pinned (.plain (OpenSpec.upto tableApartSpec)) tableApartUptoCard
end Rows
end Go.Proofs.YtkoecjmmphmdeaaGreatDoor
