/-
  DERIVED. GIVEN WITH THE SEED: THE CARDS: each row of YteajpblmbmncdaaGreatDoorRows.lean that lists a variable, with what it lists TIED to the program's text (the seventh form; the later family's looks); each row that meets fmt, with fmt's text TOLD by the authors' own Lean function (tested against real Go, not proved from fmt's source: count such statements apart). THE CARD IS WHAT COUNTS. Prove the row's statement (the work); the ties are given (YteajpblmbmncdaaGreatDoorTie.lean); close each card by the builder's one call (the guide's Derived/Test/ToyasCard.lean, 'card_holds'). Laid BY PROGRAM, IN A SANDBOX (cutbox-door.mjs). By AI agents, Wed Nov 11 2026. No macro, syntax, notation, axiom, sorry.
-/
import Derived.Test.YteajpblmbmncdaaGreatDoorRows
import GoSem.ClaimSeven
namespace Go.Proofs.YteajpblmbmncdaaGreatDoor
namespace Rows

/-- THE TIED CARD OF 'haruspextop.TopTaintField'. -/
def topTaintFieldCard : Claim7 := { stood := { row := topTaintFieldRow, standIns := [], harness := (true, "c4fa7d2471a0a994c92ae640dc9afdfb4d8fb2a729aa52deccea80ae6d034b70"), looks := true }, kinds := [], alts := [], laidByText := true, laidKinds := [.data, .handle], laidTests := true, laidLooks := .later }
def TopTaintFieldCardSaid : Prop := Claim7.holds Tryz.pinned (.plain (OpenSpec.ofChange topTaintFieldSpec)) topTaintFieldCard

/-- THE TIED CARD OF 'haruspextop.TopTaintCalls'. -/
def topTaintCallsCard : Claim7 := { stood := { row := topTaintCallsRow, standIns := [], harness := (true, "c4fa7d2471a0a994c92ae640dc9afdfb4d8fb2a729aa52deccea80ae6d034b70"), looks := true }, kinds := [], alts := [], laidByText := true, laidKinds := [.data, .handle], laidTests := true, laidLooks := .later }
def TopTaintCallsCardSaid : Prop := Claim7.holds Tryz.pinned (.plain (OpenSpec.ofChange topTaintCallsSpec)) topTaintCallsCard

/-- THE TIED CARD OF 'haruspextop.TopFree'. -/
def topFreeCard : Claim7 := { stood := { row := topFreeRow, standIns := [], harness := (true, "c4fa7d2471a0a994c92ae640dc9afdfb4d8fb2a729aa52deccea80ae6d034b70"), looks := true }, kinds := [], alts := [], laidByText := true, laidKinds := [.data, .handle], laidTests := true, laidLooks := .later }
def TopFreeCardSaid : Prop := Claim7.holds Tryz.pinned (.plain (OpenSpec.ofChange topFreeSpec)) topFreeCard

/-- THE TIED CARD OF 'haruspextop.TopFreeAlias'. -/
def topFreeAliasCard : Claim7 := { stood := { row := topFreeAliasRow, standIns := [], harness := (true, "c4fa7d2471a0a994c92ae640dc9afdfb4d8fb2a729aa52deccea80ae6d034b70"), looks := true }, kinds := [], alts := [], laidByText := true, laidKinds := [.data, .handle], laidTests := true, laidLooks := .later }
def TopFreeAliasCardSaid : Prop := Claim7.holds Tryz.pinned (.plain (OpenSpec.ofChange topFreeAliasSpec)) topFreeAliasCard

/-- THE TIED CARD OF 'haruspextop.TopNilField'. -/
def topNilFieldCard : Claim7 := { stood := { row := topNilFieldRow, standIns := [], harness := (true, "c4fa7d2471a0a994c92ae640dc9afdfb4d8fb2a729aa52deccea80ae6d034b70"), looks := true }, kinds := [], alts := [], laidByText := true, laidKinds := [.data, .handle], laidTests := true, laidLooks := .later }
def TopNilFieldCardSaid : Prop := Claim7.holds Tryz.pinned (.plain (OpenSpec.ofChange topNilFieldSpec)) topNilFieldCard

/-- THE TIED CARD OF 'haruspextop.TopNilCopy'. -/
def topNilCopyCard : Claim7 := { stood := { row := topNilCopyRow, standIns := [], harness := (true, "c4fa7d2471a0a994c92ae640dc9afdfb4d8fb2a729aa52deccea80ae6d034b70"), looks := true }, kinds := [], alts := [], laidByText := true, laidKinds := [.data, .handle], laidTests := true, laidLooks := .later }
def TopNilCopyCardSaid : Prop := Claim7.holds Tryz.pinned (.plain (OpenSpec.ofChange topNilCopySpec)) topNilCopyCard

/-- THE TIED CARD OF 'haruspextop.TopSwap'. -/
def topSwapCard : Claim7 := { stood := { row := topSwapRow, standIns := [], harness := (true, "c4fa7d2471a0a994c92ae640dc9afdfb4d8fb2a729aa52deccea80ae6d034b70"), looks := true }, kinds := [], alts := [], laidByText := true, laidKinds := [.data, .handle], laidTests := true, laidLooks := .later }
def TopSwapCardSaid : Prop := Claim7.holds Tryz.pinned (.plain (OpenSpec.ofChange topSwapSpec)) topSwapCard

/-- THE TIED CARD OF 'haruspextop.TopLists'. -/
def topListsCard : Claim7 := { stood := { row := topListsRow, standIns := [], harness := (true, "c4fa7d2471a0a994c92ae640dc9afdfb4d8fb2a729aa52deccea80ae6d034b70"), looks := true }, kinds := [], alts := [], laidByText := true, laidKinds := [.data, .handle], laidTests := true, laidLooks := .later }
def TopListsCardSaid : Prop := Claim7.holds Tryz.pinned (.plain (OpenSpec.ofChange topListsSpec)) topListsCard

/-- THE TIED CARD OF 'haruspextop.TopDeep'. -/
def topDeepCard : Claim7 := { stood := { row := topDeepRow, standIns := [], harness := (true, "c4fa7d2471a0a994c92ae640dc9afdfb4d8fb2a729aa52deccea80ae6d034b70"), looks := true }, kinds := [], alts := [], laidByText := true, laidKinds := [.data, .handle], laidTests := true, laidLooks := .later }
def TopDeepCardSaid : Prop := Claim7.holds Tryz.pinned (.plain (OpenSpec.ofChange topDeepSpec)) topDeepCard

/-- THE TIED CARD OF 'haruspextop.TopNilParam'. -/
def topNilParamCard : Claim7 := { stood := { row := topNilParamRow, standIns := [], harness := (true, "c4fa7d2471a0a994c92ae640dc9afdfb4d8fb2a729aa52deccea80ae6d034b70"), looks := true }, kinds := [], alts := [], laidByText := true, laidKinds := [.data, .handle], laidTests := true, laidLooks := .later }
def TopNilParamCardSaid : Prop := Claim7.holds Tryz.pinned (.plain (OpenSpec.ofChange topNilParamSpec)) topNilParamCard

/-- THE TIED CARD OF 'haruspextop.TopNilReturn'. -/
def topNilReturnCard : Claim7 := { stood := { row := topNilReturnRow, standIns := [], harness := (true, "c4fa7d2471a0a994c92ae640dc9afdfb4d8fb2a729aa52deccea80ae6d034b70"), looks := true }, kinds := [], alts := [], laidByText := true, laidKinds := [.data, .handle], laidTests := true, laidLooks := .later }
def TopNilReturnCardSaid : Prop := Claim7.holds Tryz.pinned (.plain (OpenSpec.ofChange topNilReturnSpec)) topNilReturnCard

/-- THE TIED CARD OF 'haruspextop.TopControl'. -/
def topControlCard : Claim7 := { stood := { row := topControlRow, standIns := [], harness := (true, "c4fa7d2471a0a994c92ae640dc9afdfb4d8fb2a729aa52deccea80ae6d034b70"), looks := true }, kinds := [], alts := [], laidByText := true, laidKinds := [.data, .handle], laidTests := true, laidLooks := .later }
def TopControlCardSaid : Prop := Claim7.holds Tryz.pinned (.plain (OpenSpec.ofChange topControlSpec)) topControlCard

/-- THE SECOND FORM's CARD OF 'haruspextop.TopTaintField'. -/
def topTaintFieldUptoCard : Claim7 := { stood := { row := topTaintFieldUptoRow, standIns := [], harness := (true, "c4fa7d2471a0a994c92ae640dc9afdfb4d8fb2a729aa52deccea80ae6d034b70"), looks := true }, kinds := [], alts := [], laidByText := true, laidKinds := [.data, .handle], laidTests := true, laidLooks := .later }
def TopTaintFieldUptoCardSaid : Prop := Claim7.holds Tryz.pinned (.plain (OpenSpec.upto topTaintFieldSpec)) topTaintFieldUptoCard

/-- THE SECOND FORM's CARD OF 'haruspextop.TopTaintCalls'. -/
def topTaintCallsUptoCard : Claim7 := { stood := { row := topTaintCallsUptoRow, standIns := [], harness := (true, "c4fa7d2471a0a994c92ae640dc9afdfb4d8fb2a729aa52deccea80ae6d034b70"), looks := true }, kinds := [], alts := [], laidByText := true, laidKinds := [.data, .handle], laidTests := true, laidLooks := .later }
def TopTaintCallsUptoCardSaid : Prop := Claim7.holds Tryz.pinned (.plain (OpenSpec.upto topTaintCallsSpec)) topTaintCallsUptoCard

/-- THE SECOND FORM's CARD OF 'haruspextop.TopFree'. -/
def topFreeUptoCard : Claim7 := { stood := { row := topFreeUptoRow, standIns := [], harness := (true, "c4fa7d2471a0a994c92ae640dc9afdfb4d8fb2a729aa52deccea80ae6d034b70"), looks := true }, kinds := [], alts := [], laidByText := true, laidKinds := [.data, .handle], laidTests := true, laidLooks := .later }
def TopFreeUptoCardSaid : Prop := Claim7.holds Tryz.pinned (.plain (OpenSpec.upto topFreeSpec)) topFreeUptoCard

/-- THE SECOND FORM's CARD OF 'haruspextop.TopFreeAlias'. -/
def topFreeAliasUptoCard : Claim7 := { stood := { row := topFreeAliasUptoRow, standIns := [], harness := (true, "c4fa7d2471a0a994c92ae640dc9afdfb4d8fb2a729aa52deccea80ae6d034b70"), looks := true }, kinds := [], alts := [], laidByText := true, laidKinds := [.data, .handle], laidTests := true, laidLooks := .later }
def TopFreeAliasUptoCardSaid : Prop := Claim7.holds Tryz.pinned (.plain (OpenSpec.upto topFreeAliasSpec)) topFreeAliasUptoCard

/-- THE SECOND FORM's CARD OF 'haruspextop.TopNilField'. -/
def topNilFieldUptoCard : Claim7 := { stood := { row := topNilFieldUptoRow, standIns := [], harness := (true, "c4fa7d2471a0a994c92ae640dc9afdfb4d8fb2a729aa52deccea80ae6d034b70"), looks := true }, kinds := [], alts := [], laidByText := true, laidKinds := [.data, .handle], laidTests := true, laidLooks := .later }
def TopNilFieldUptoCardSaid : Prop := Claim7.holds Tryz.pinned (.plain (OpenSpec.upto topNilFieldSpec)) topNilFieldUptoCard

/-- THE SECOND FORM's CARD OF 'haruspextop.TopNilCopy'. -/
def topNilCopyUptoCard : Claim7 := { stood := { row := topNilCopyUptoRow, standIns := [], harness := (true, "c4fa7d2471a0a994c92ae640dc9afdfb4d8fb2a729aa52deccea80ae6d034b70"), looks := true }, kinds := [], alts := [], laidByText := true, laidKinds := [.data, .handle], laidTests := true, laidLooks := .later }
def TopNilCopyUptoCardSaid : Prop := Claim7.holds Tryz.pinned (.plain (OpenSpec.upto topNilCopySpec)) topNilCopyUptoCard

/-- THE SECOND FORM's CARD OF 'haruspextop.TopSwap'. -/
def topSwapUptoCard : Claim7 := { stood := { row := topSwapUptoRow, standIns := [], harness := (true, "c4fa7d2471a0a994c92ae640dc9afdfb4d8fb2a729aa52deccea80ae6d034b70"), looks := true }, kinds := [], alts := [], laidByText := true, laidKinds := [.data, .handle], laidTests := true, laidLooks := .later }
def TopSwapUptoCardSaid : Prop := Claim7.holds Tryz.pinned (.plain (OpenSpec.upto topSwapSpec)) topSwapUptoCard

/-- THE SECOND FORM's CARD OF 'haruspextop.TopLists'. -/
def topListsUptoCard : Claim7 := { stood := { row := topListsUptoRow, standIns := [], harness := (true, "c4fa7d2471a0a994c92ae640dc9afdfb4d8fb2a729aa52deccea80ae6d034b70"), looks := true }, kinds := [], alts := [], laidByText := true, laidKinds := [.data, .handle], laidTests := true, laidLooks := .later }
def TopListsUptoCardSaid : Prop := Claim7.holds Tryz.pinned (.plain (OpenSpec.upto topListsSpec)) topListsUptoCard

/-- THE SECOND FORM's CARD OF 'haruspextop.TopDeep'. -/
def topDeepUptoCard : Claim7 := { stood := { row := topDeepUptoRow, standIns := [], harness := (true, "c4fa7d2471a0a994c92ae640dc9afdfb4d8fb2a729aa52deccea80ae6d034b70"), looks := true }, kinds := [], alts := [], laidByText := true, laidKinds := [.data, .handle], laidTests := true, laidLooks := .later }
def TopDeepUptoCardSaid : Prop := Claim7.holds Tryz.pinned (.plain (OpenSpec.upto topDeepSpec)) topDeepUptoCard

/-- THE SECOND FORM's CARD OF 'haruspextop.TopNilParam'. -/
def topNilParamUptoCard : Claim7 := { stood := { row := topNilParamUptoRow, standIns := [], harness := (true, "c4fa7d2471a0a994c92ae640dc9afdfb4d8fb2a729aa52deccea80ae6d034b70"), looks := true }, kinds := [], alts := [], laidByText := true, laidKinds := [.data, .handle], laidTests := true, laidLooks := .later }
def TopNilParamUptoCardSaid : Prop := Claim7.holds Tryz.pinned (.plain (OpenSpec.upto topNilParamSpec)) topNilParamUptoCard

/-- THE SECOND FORM's CARD OF 'haruspextop.TopNilReturn'. -/
def topNilReturnUptoCard : Claim7 := { stood := { row := topNilReturnUptoRow, standIns := [], harness := (true, "c4fa7d2471a0a994c92ae640dc9afdfb4d8fb2a729aa52deccea80ae6d034b70"), looks := true }, kinds := [], alts := [], laidByText := true, laidKinds := [.data, .handle], laidTests := true, laidLooks := .later }
def TopNilReturnUptoCardSaid : Prop := Claim7.holds Tryz.pinned (.plain (OpenSpec.upto topNilReturnSpec)) topNilReturnUptoCard

/-- THE SECOND FORM's CARD OF 'haruspextop.TopControl'. -/
def topControlUptoCard : Claim7 := { stood := { row := topControlUptoRow, standIns := [], harness := (true, "c4fa7d2471a0a994c92ae640dc9afdfb4d8fb2a729aa52deccea80ae6d034b70"), looks := true }, kinds := [], alts := [], laidByText := true, laidKinds := [.data, .handle], laidTests := true, laidLooks := .later }
def TopControlUptoCardSaid : Prop := Claim7.holds Tryz.pinned (.plain (OpenSpec.upto topControlSpec)) topControlUptoCard
end Rows
end Go.Proofs.YteajpblmbmncdaaGreatDoor
