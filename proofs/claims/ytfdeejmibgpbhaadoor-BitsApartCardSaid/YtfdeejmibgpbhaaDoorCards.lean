/-
  DERIVED. GIVEN WITH THE SEED: THE CARDS: each row of YtfdeejmibgpbhaaDoorRows.lean that lists a variable, with what it lists TIED to the program's text (the seventh form; the later family's looks); each row that meets fmt, with fmt's text TOLD by the authors' own Lean function (tested against real Go, not proved from fmt's source: count such statements apart). THE CARD IS WHAT COUNTS. Prove the row's statement (the work); the ties are given (YtfdeejmibgpbhaaDoorTie.lean); close each card by the builder's one call (the guide's Derived/Test/ToyasCard.lean, 'card_holds'). Laid BY PROGRAM, IN A SANDBOX (cutbox-door.mjs). By AI agents, Wed Nov 11 2026. No macro, syntax, notation, axiom, sorry.
-/
import Derived.Test.YtfdeejmibgpbhaaDoorRows
import GoSem.ClaimSeven
namespace Go.Proofs.YtfdeejmibgpbhaaDoor
namespace Rows

/-- THE TIED CARD OF 'linotypelaw16.BitsRows'. -/
def bitsRowsCard : Claim7 := { stood := { row := bitsRowsRow, standIns := [], harness := (true, "31e921152ed6d181e8d1bf07728ad64ff27eee67345246f5f07b55a1b229e6a8"), looks := true }, kinds := [], alts := [], laidByText := true, laidKinds := [.data, .data, .data, .data, .sentinel, .sentinel, .listed, .data, .pinned], laidTests := true, laidLooks := .later }
def BitsRowsCardSaid : Prop := Claim7.holds Tryd.pinned (.plain (OpenSpec.ofChange bitsRowsSpec)) bitsRowsCard

/-- THE TIED CARD OF 'linotypelaw16.BitsOf'. -/
def bitsOfCard : Claim7 := { stood := { row := bitsOfRow, standIns := [], harness := (true, "31e921152ed6d181e8d1bf07728ad64ff27eee67345246f5f07b55a1b229e6a8"), looks := true }, kinds := [], alts := [], laidByText := true, laidKinds := [.data, .data, .data, .data, .sentinel, .sentinel, .listed, .data, .pinned], laidTests := true, laidLooks := .later }
def BitsOfCardSaid : Prop := Claim7.holds Tryd.pinned (.plain (OpenSpec.ofChange bitsOfSpec)) bitsOfCard

/-- THE TIED CARD OF 'linotypelaw16.BitsKnown'. -/
def bitsKnownCard : Claim7 := { stood := { row := bitsKnownRow, standIns := [], harness := (true, "31e921152ed6d181e8d1bf07728ad64ff27eee67345246f5f07b55a1b229e6a8"), looks := true }, kinds := [], alts := [], laidByText := true, laidKinds := [.data, .data, .data, .data, .sentinel, .sentinel, .listed, .data, .pinned], laidTests := true, laidLooks := .later }
def BitsKnownCardSaid : Prop := Claim7.holds Tryd.pinned (.plain (OpenSpec.ofChange bitsKnownSpec)) bitsKnownCard

/-- THE TIED CARD OF 'linotypelaw16.BitsApart'. -/
def bitsApartCard : Claim7 := { stood := { row := bitsApartRow, standIns := [], harness := (true, "31e921152ed6d181e8d1bf07728ad64ff27eee67345246f5f07b55a1b229e6a8"), looks := true }, kinds := [], alts := [], laidByText := true, laidKinds := [.data, .data, .data, .data, .sentinel, .sentinel, .listed, .data, .pinned], laidTests := true, laidLooks := .later }
def BitsApartCardSaid : Prop := Claim7.holds Tryd.pinned (.plain (OpenSpec.ofChange bitsApartSpec)) bitsApartCard

/-- THE TIED CARD OF 'linotypelaw16.BitsPairs'. -/
def bitsPairsCard : Claim7 := { stood := { row := bitsPairsRow, standIns := [], harness := (true, "31e921152ed6d181e8d1bf07728ad64ff27eee67345246f5f07b55a1b229e6a8"), looks := true }, kinds := [], alts := [], laidByText := true, laidKinds := [.data, .data, .data, .data, .sentinel, .sentinel, .listed, .data, .pinned], laidTests := true, laidLooks := .later }
def BitsPairsCardSaid : Prop := Claim7.holds Tryd.pinned (.plain (OpenSpec.ofChange bitsPairsSpec)) bitsPairsCard

/-- THE TIED CARD OF 'linotypelaw16.BitsMay'. -/
def bitsMayCard : Claim7 := { stood := { row := bitsMayRow, standIns := [], harness := (true, "31e921152ed6d181e8d1bf07728ad64ff27eee67345246f5f07b55a1b229e6a8"), looks := true }, kinds := [], alts := [], laidByText := true, laidKinds := [.data, .data, .data, .data, .sentinel, .sentinel, .listed, .data, .pinned], laidTests := true, laidLooks := .later }
def BitsMayCardSaid : Prop := Claim7.holds Tryd.pinned (.plain (OpenSpec.ofChange bitsMaySpec)) bitsMayCard

/-- THE SECOND FORM's CARD OF 'linotypelaw16.BitsRows'. -/
def bitsRowsUptoCard : Claim7 := { stood := { row := bitsRowsUptoRow, standIns := [], harness := (true, "31e921152ed6d181e8d1bf07728ad64ff27eee67345246f5f07b55a1b229e6a8"), looks := true }, kinds := [], alts := [], laidByText := true, laidKinds := [.data, .data, .data, .data, .sentinel, .sentinel, .listed, .data, .pinned], laidTests := true, laidLooks := .later }
def BitsRowsUptoCardSaid : Prop := Claim7.holds Tryd.pinned (.plain (OpenSpec.upto bitsRowsSpec)) bitsRowsUptoCard

/-- THE SECOND FORM's CARD OF 'linotypelaw16.BitsOf'. -/
def bitsOfUptoCard : Claim7 := { stood := { row := bitsOfUptoRow, standIns := [], harness := (true, "31e921152ed6d181e8d1bf07728ad64ff27eee67345246f5f07b55a1b229e6a8"), looks := true }, kinds := [], alts := [], laidByText := true, laidKinds := [.data, .data, .data, .data, .sentinel, .sentinel, .listed, .data, .pinned], laidTests := true, laidLooks := .later }
def BitsOfUptoCardSaid : Prop := Claim7.holds Tryd.pinned (.plain (OpenSpec.upto bitsOfSpec)) bitsOfUptoCard

/-- THE SECOND FORM's CARD OF 'linotypelaw16.BitsKnown'. -/
def bitsKnownUptoCard : Claim7 := { stood := { row := bitsKnownUptoRow, standIns := [], harness := (true, "31e921152ed6d181e8d1bf07728ad64ff27eee67345246f5f07b55a1b229e6a8"), looks := true }, kinds := [], alts := [], laidByText := true, laidKinds := [.data, .data, .data, .data, .sentinel, .sentinel, .listed, .data, .pinned], laidTests := true, laidLooks := .later }
def BitsKnownUptoCardSaid : Prop := Claim7.holds Tryd.pinned (.plain (OpenSpec.upto bitsKnownSpec)) bitsKnownUptoCard

/-- THE SECOND FORM's CARD OF 'linotypelaw16.BitsApart'. -/
def bitsApartUptoCard : Claim7 := { stood := { row := bitsApartUptoRow, standIns := [], harness := (true, "31e921152ed6d181e8d1bf07728ad64ff27eee67345246f5f07b55a1b229e6a8"), looks := true }, kinds := [], alts := [], laidByText := true, laidKinds := [.data, .data, .data, .data, .sentinel, .sentinel, .listed, .data, .pinned], laidTests := true, laidLooks := .later }
def BitsApartUptoCardSaid : Prop := Claim7.holds Tryd.pinned (.plain (OpenSpec.upto bitsApartSpec)) bitsApartUptoCard

/-- THE SECOND FORM's CARD OF 'linotypelaw16.BitsPairs'. -/
def bitsPairsUptoCard : Claim7 := { stood := { row := bitsPairsUptoRow, standIns := [], harness := (true, "31e921152ed6d181e8d1bf07728ad64ff27eee67345246f5f07b55a1b229e6a8"), looks := true }, kinds := [], alts := [], laidByText := true, laidKinds := [.data, .data, .data, .data, .sentinel, .sentinel, .listed, .data, .pinned], laidTests := true, laidLooks := .later }
def BitsPairsUptoCardSaid : Prop := Claim7.holds Tryd.pinned (.plain (OpenSpec.upto bitsPairsSpec)) bitsPairsUptoCard

/-- THE SECOND FORM's CARD OF 'linotypelaw16.BitsMay'. -/
def bitsMayUptoCard : Claim7 := { stood := { row := bitsMayUptoRow, standIns := [], harness := (true, "31e921152ed6d181e8d1bf07728ad64ff27eee67345246f5f07b55a1b229e6a8"), looks := true }, kinds := [], alts := [], laidByText := true, laidKinds := [.data, .data, .data, .data, .sentinel, .sentinel, .listed, .data, .pinned], laidTests := true, laidLooks := .later }
def BitsMayUptoCardSaid : Prop := Claim7.holds Tryd.pinned (.plain (OpenSpec.upto bitsMaySpec)) bitsMayUptoCard
end Rows
end Go.Proofs.YtfdeejmibgpbhaaDoor
