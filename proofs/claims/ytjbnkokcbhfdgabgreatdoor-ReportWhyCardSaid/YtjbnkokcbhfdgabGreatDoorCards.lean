/-
  DERIVED. GIVEN WITH THE SEED: THE CARDS: each row of YtjbnkokcbhfdgabGreatDoorRows.lean that lists a variable, with what it lists TIED to the program's text (the seventh form; the later family's looks); each row that meets fmt, with fmt's text TOLD by the authors' own Lean function (tested against real Go, not proved from fmt's source: count such statements apart). THE CARD IS WHAT COUNTS. Prove the row's statement (the work); the ties are given (YtjbnkokcbhfdgabGreatDoorTie.lean); close each card by the builder's one call (the guide's Derived/Test/ToyasCard.lean, 'card_holds'). Laid BY PROGRAM, IN A SANDBOX (cutbox-door.mjs). By AI agents, Wed Nov 11 2026. No macro, syntax, notation, axiom, sorry.
-/
import Derived.Test.YtjbnkokcbhfdgabGreatDoorRows
import GoSem.ClaimSeven
namespace Go.Proofs.YtjbnkokcbhfdgabGreatDoor
namespace Rows

/-- THE TIED CARD OF 'haruspexlaw22.MemoryStores'. -/
def memoryStoresCard : Claim7 := { stood := { row := memoryStoresRow, standIns := [], harness := (true, "1ebe1786ce95887cfce0d21bed5e134d8ffdad449a4d3b290782a9bada2b452f"), looks := true }, kinds := [], alts := [], laidByText := true, laidKinds := [.data, .handle], laidTests := true, laidLooks := .later }
def MemoryStoresCardSaid : Prop := Claim7.holds Tryz.pinned (.plain (OpenSpec.ofChange memoryStoresSpec)) memoryStoresCard

/-- THE TIED CARD OF 'haruspexlaw23.FlowLess'. -/
def flowLessCard : Claim7 := { stood := { row := flowLessRow, standIns := [], harness := (true, "1ebe1786ce95887cfce0d21bed5e134d8ffdad449a4d3b290782a9bada2b452f"), looks := true }, kinds := [], alts := [], laidByText := true, laidKinds := [.data, .handle], laidTests := true, laidLooks := .later }
def FlowLessCardSaid : Prop := Claim7.holds Tryz.pinned (.plain (OpenSpec.ofChange flowLessSpec)) flowLessCard

/-- THE TIED CARD OF 'haruspexlaw27.ReportWhy'. -/
def reportWhyCard : Claim7 := { stood := { row := reportWhyRow, standIns := [], harness := (true, "1ebe1786ce95887cfce0d21bed5e134d8ffdad449a4d3b290782a9bada2b452f"), looks := true }, kinds := [], alts := [], laidByText := true, laidKinds := [.data, .data, .data, .handle], laidTests := true, laidLooks := .later }
def ReportWhyCardSaid : Prop := Claim7.holds Tryz.pinned (.plain (OpenSpec.ofChange reportWhySpec)) reportWhyCard

/-- THE TIED CARD OF 'haruspextop.TopLists'. -/
def topListsCard : Claim7 := { stood := { row := topListsRow, standIns := [], harness := (true, "1ebe1786ce95887cfce0d21bed5e134d8ffdad449a4d3b290782a9bada2b452f"), looks := true }, kinds := [], alts := [], laidByText := true, laidKinds := [.data, .handle], laidTests := true, laidLooks := .later }
def TopListsCardSaid : Prop := Claim7.holds Tryz.pinned (.plain (OpenSpec.ofChange topListsSpec)) topListsCard

/-- THE SECOND FORM's CARD OF 'haruspexlaw22.MemoryStores'. -/
def memoryStoresUptoCard : Claim7 := { stood := { row := memoryStoresUptoRow, standIns := [], harness := (true, "1ebe1786ce95887cfce0d21bed5e134d8ffdad449a4d3b290782a9bada2b452f"), looks := true }, kinds := [], alts := [], laidByText := true, laidKinds := [.data, .handle], laidTests := true, laidLooks := .later }
def MemoryStoresUptoCardSaid : Prop := Claim7.holds Tryz.pinned (.plain (OpenSpec.upto memoryStoresSpec)) memoryStoresUptoCard

/-- THE SECOND FORM's CARD OF 'haruspexlaw23.FlowLess'. -/
def flowLessUptoCard : Claim7 := { stood := { row := flowLessUptoRow, standIns := [], harness := (true, "1ebe1786ce95887cfce0d21bed5e134d8ffdad449a4d3b290782a9bada2b452f"), looks := true }, kinds := [], alts := [], laidByText := true, laidKinds := [.data, .handle], laidTests := true, laidLooks := .later }
def FlowLessUptoCardSaid : Prop := Claim7.holds Tryz.pinned (.plain (OpenSpec.upto flowLessSpec)) flowLessUptoCard

/-- THE SECOND FORM's CARD OF 'haruspexlaw27.ReportWhy'. -/
def reportWhyUptoCard : Claim7 := { stood := { row := reportWhyUptoRow, standIns := [], harness := (true, "1ebe1786ce95887cfce0d21bed5e134d8ffdad449a4d3b290782a9bada2b452f"), looks := true }, kinds := [], alts := [], laidByText := true, laidKinds := [.data, .data, .data, .handle], laidTests := true, laidLooks := .later }
def ReportWhyUptoCardSaid : Prop := Claim7.holds Tryz.pinned (.plain (OpenSpec.upto reportWhySpec)) reportWhyUptoCard

/-- THE SECOND FORM's CARD OF 'haruspextop.TopLists'. -/
def topListsUptoCard : Claim7 := { stood := { row := topListsUptoRow, standIns := [], harness := (true, "1ebe1786ce95887cfce0d21bed5e134d8ffdad449a4d3b290782a9bada2b452f"), looks := true }, kinds := [], alts := [], laidByText := true, laidKinds := [.data, .handle], laidTests := true, laidLooks := .later }
def TopListsUptoCardSaid : Prop := Claim7.holds Tryz.pinned (.plain (OpenSpec.upto topListsSpec)) topListsUptoCard
end Rows
end Go.Proofs.YtjbnkokcbhfdgabGreatDoor
