/-
  DERIVED. GIVEN WITH THE SEED: THE CARDS: each row of YtjjfahgdmaikpaaGreatDoorRows.lean that lists a variable, with what it lists TIED to the program's text (the seventh form; the later family's looks); each row that meets fmt, with fmt's text TOLD by the authors' own Lean function (tested against real Go, not proved from fmt's source: count such statements apart). THE CARD IS WHAT COUNTS. Prove the row's statement (the work); the ties are given (YtjjfahgdmaikpaaGreatDoorTie.lean); close each card by the builder's one call (the guide's Derived/Test/ToyasCard.lean, 'card_holds'). Laid BY PROGRAM, IN A SANDBOX (cutbox-door.mjs). By AI agents, Wed Nov 11 2026. No macro, syntax, notation, axiom, sorry.
-/
import Derived.Test.YtjjfahgdmaikpaaGreatDoorRows
import GoSem.ClaimSeven
namespace Go.Proofs.YtjjfahgdmaikpaaGreatDoor
namespace Rows

/-- THE TIED CARD OF 'haruspexlaw18.SolveNone'. -/
def solveNoneCard : Claim7 := { stood := { row := solveNoneRow, standIns := [], harness := (true, "8a669678651900b511eecfe77f1c0dd32447eba6a54d8a7e8893d42365947df4"), looks := true }, kinds := [], alts := [], laidByText := true, laidKinds := [.data, .handle], laidTests := true, laidLooks := .later }
def SolveNoneCardSaid : Prop := Claim7.holds Tryz.pinned (.plain (OpenSpec.ofChange solveNoneSpec)) solveNoneCard

/-- THE TIED CARD OF 'haruspexlaw18.SolveFields'. -/
def solveFieldsCard : Claim7 := { stood := { row := solveFieldsRow, standIns := [], harness := (true, "8a669678651900b511eecfe77f1c0dd32447eba6a54d8a7e8893d42365947df4"), looks := true }, kinds := [], alts := [], laidByText := true, laidKinds := [.data, .handle], laidTests := true, laidLooks := .later }
def SolveFieldsCardSaid : Prop := Claim7.holds Tryz.pinned (.plain (OpenSpec.ofChange solveFieldsSpec)) solveFieldsCard

/-- THE TIED CARD OF 'haruspexlaw18.SolveDeep'. -/
def solveDeepCard : Claim7 := { stood := { row := solveDeepRow, standIns := [], harness := (true, "8a669678651900b511eecfe77f1c0dd32447eba6a54d8a7e8893d42365947df4"), looks := true }, kinds := [], alts := [], laidByText := true, laidKinds := [.data, .handle], laidTests := true, laidLooks := .later }
def SolveDeepCardSaid : Prop := Claim7.holds Tryz.pinned (.plain (OpenSpec.ofChange solveDeepSpec)) solveDeepCard

/-- THE TIED CARD OF 'haruspexlaw18.SolveCalls'. -/
def solveCallsCard : Claim7 := { stood := { row := solveCallsRow, standIns := [], harness := (true, "8a669678651900b511eecfe77f1c0dd32447eba6a54d8a7e8893d42365947df4"), looks := true }, kinds := [], alts := [], laidByText := true, laidKinds := [.data, .handle], laidTests := true, laidLooks := .later }
def SolveCallsCardSaid : Prop := Claim7.holds Tryz.pinned (.plain (OpenSpec.ofChange solveCallsSpec)) solveCallsCard

/-- THE TIED CARD OF 'haruspexlaw18.SolveRing'. -/
def solveRingCard : Claim7 := { stood := { row := solveRingRow, standIns := [], harness := (true, "8a669678651900b511eecfe77f1c0dd32447eba6a54d8a7e8893d42365947df4"), looks := true }, kinds := [], alts := [], laidByText := true, laidKinds := [.data, .handle], laidTests := true, laidLooks := .later }
def SolveRingCardSaid : Prop := Claim7.holds Tryz.pinned (.plain (OpenSpec.ofChange solveRingSpec)) solveRingCard

/-- THE TIED CARD OF 'haruspexlaw20.ModrefChain'. -/
def modrefChainCard : Claim7 := { stood := { row := modrefChainRow, standIns := [], harness := (true, "8a669678651900b511eecfe77f1c0dd32447eba6a54d8a7e8893d42365947df4"), looks := true }, kinds := [], alts := [], laidByText := true, laidKinds := [.data, .handle], laidTests := true, laidLooks := .later }
def ModrefChainCardSaid : Prop := Claim7.holds Tryz.pinned (.plain (OpenSpec.ofChange modrefChainSpec)) modrefChainCard

/-- THE TIED CARD OF 'haruspexlaw19.CallsBack'. -/
def callsBackCard : Claim7 := { stood := { row := callsBackRow, standIns := [], harness := (true, "8a669678651900b511eecfe77f1c0dd32447eba6a54d8a7e8893d42365947df4"), looks := true }, kinds := [], alts := [], laidByText := true, laidKinds := [.data, .handle], laidTests := true, laidLooks := .later }
def CallsBackCardSaid : Prop := Claim7.holds Tryz.pinned (.plain (OpenSpec.ofChange callsBackSpec)) callsBackCard

/-- THE TIED CARD OF 'haruspexlaw19.CallsChain'. -/
def callsChainCard : Claim7 := { stood := { row := callsChainRow, standIns := [], harness := (true, "8a669678651900b511eecfe77f1c0dd32447eba6a54d8a7e8893d42365947df4"), looks := true }, kinds := [], alts := [], laidByText := true, laidKinds := [.data, .handle], laidTests := true, laidLooks := .later }
def CallsChainCardSaid : Prop := Claim7.holds Tryz.pinned (.plain (OpenSpec.ofChange callsChainSpec)) callsChainCard

/-- THE TIED CARD OF 'haruspexlaw22.MemoryCall'. -/
def memoryCallCard : Claim7 := { stood := { row := memoryCallRow, standIns := [], harness := (true, "8a669678651900b511eecfe77f1c0dd32447eba6a54d8a7e8893d42365947df4"), looks := true }, kinds := [], alts := [], laidByText := true, laidKinds := [.data, .handle], laidTests := true, laidLooks := .later }
def MemoryCallCardSaid : Prop := Claim7.holds Tryz.pinned (.plain (OpenSpec.ofChange memoryCallSpec)) memoryCallCard

/-- THE TIED CARD OF 'haruspexlaw22.MemoryStores'. -/
def memoryStoresCard : Claim7 := { stood := { row := memoryStoresRow, standIns := [], harness := (true, "8a669678651900b511eecfe77f1c0dd32447eba6a54d8a7e8893d42365947df4"), looks := true }, kinds := [], alts := [], laidByText := true, laidKinds := [.data, .handle], laidTests := true, laidLooks := .later }
def MemoryStoresCardSaid : Prop := Claim7.holds Tryz.pinned (.plain (OpenSpec.ofChange memoryStoresSpec)) memoryStoresCard

/-- THE TIED CARD OF 'haruspexlaw23.FlowNone'. -/
def flowNoneCard : Claim7 := { stood := { row := flowNoneRow, standIns := [], harness := (true, "8a669678651900b511eecfe77f1c0dd32447eba6a54d8a7e8893d42365947df4"), looks := true }, kinds := [], alts := [], laidByText := true, laidKinds := [.data, .handle], laidTests := true, laidLooks := .later }
def FlowNoneCardSaid : Prop := Claim7.holds Tryz.pinned (.plain (OpenSpec.ofChange flowNoneSpec)) flowNoneCard

/-- THE TIED CARD OF 'haruspexlaw28.WitnessNone'. -/
def witnessNoneCard : Claim7 := { stood := { row := witnessNoneRow, standIns := [], harness := (true, "8a669678651900b511eecfe77f1c0dd32447eba6a54d8a7e8893d42365947df4"), looks := true }, kinds := [], alts := [], laidByText := true, laidKinds := [.data, .handle], laidTests := true, laidLooks := .later }
def WitnessNoneCardSaid : Prop := Claim7.holds Tryz.pinned (.plain (OpenSpec.ofChange witnessNoneSpec)) witnessNoneCard

/-- THE SECOND FORM's CARD OF 'haruspexlaw18.SolveNone'. -/
def solveNoneUptoCard : Claim7 := { stood := { row := solveNoneUptoRow, standIns := [], harness := (true, "8a669678651900b511eecfe77f1c0dd32447eba6a54d8a7e8893d42365947df4"), looks := true }, kinds := [], alts := [], laidByText := true, laidKinds := [.data, .handle], laidTests := true, laidLooks := .later }
def SolveNoneUptoCardSaid : Prop := Claim7.holds Tryz.pinned (.plain (OpenSpec.upto solveNoneSpec)) solveNoneUptoCard

/-- THE SECOND FORM's CARD OF 'haruspexlaw18.SolveFields'. -/
def solveFieldsUptoCard : Claim7 := { stood := { row := solveFieldsUptoRow, standIns := [], harness := (true, "8a669678651900b511eecfe77f1c0dd32447eba6a54d8a7e8893d42365947df4"), looks := true }, kinds := [], alts := [], laidByText := true, laidKinds := [.data, .handle], laidTests := true, laidLooks := .later }
def SolveFieldsUptoCardSaid : Prop := Claim7.holds Tryz.pinned (.plain (OpenSpec.upto solveFieldsSpec)) solveFieldsUptoCard

/-- THE SECOND FORM's CARD OF 'haruspexlaw18.SolveDeep'. -/
def solveDeepUptoCard : Claim7 := { stood := { row := solveDeepUptoRow, standIns := [], harness := (true, "8a669678651900b511eecfe77f1c0dd32447eba6a54d8a7e8893d42365947df4"), looks := true }, kinds := [], alts := [], laidByText := true, laidKinds := [.data, .handle], laidTests := true, laidLooks := .later }
def SolveDeepUptoCardSaid : Prop := Claim7.holds Tryz.pinned (.plain (OpenSpec.upto solveDeepSpec)) solveDeepUptoCard

/-- THE SECOND FORM's CARD OF 'haruspexlaw18.SolveCalls'. -/
def solveCallsUptoCard : Claim7 := { stood := { row := solveCallsUptoRow, standIns := [], harness := (true, "8a669678651900b511eecfe77f1c0dd32447eba6a54d8a7e8893d42365947df4"), looks := true }, kinds := [], alts := [], laidByText := true, laidKinds := [.data, .handle], laidTests := true, laidLooks := .later }
def SolveCallsUptoCardSaid : Prop := Claim7.holds Tryz.pinned (.plain (OpenSpec.upto solveCallsSpec)) solveCallsUptoCard

/-- THE SECOND FORM's CARD OF 'haruspexlaw18.SolveRing'. -/
def solveRingUptoCard : Claim7 := { stood := { row := solveRingUptoRow, standIns := [], harness := (true, "8a669678651900b511eecfe77f1c0dd32447eba6a54d8a7e8893d42365947df4"), looks := true }, kinds := [], alts := [], laidByText := true, laidKinds := [.data, .handle], laidTests := true, laidLooks := .later }
def SolveRingUptoCardSaid : Prop := Claim7.holds Tryz.pinned (.plain (OpenSpec.upto solveRingSpec)) solveRingUptoCard

/-- THE SECOND FORM's CARD OF 'haruspexlaw20.ModrefChain'. -/
def modrefChainUptoCard : Claim7 := { stood := { row := modrefChainUptoRow, standIns := [], harness := (true, "8a669678651900b511eecfe77f1c0dd32447eba6a54d8a7e8893d42365947df4"), looks := true }, kinds := [], alts := [], laidByText := true, laidKinds := [.data, .handle], laidTests := true, laidLooks := .later }
def ModrefChainUptoCardSaid : Prop := Claim7.holds Tryz.pinned (.plain (OpenSpec.upto modrefChainSpec)) modrefChainUptoCard

/-- THE SECOND FORM's CARD OF 'haruspexlaw19.CallsBack'. -/
def callsBackUptoCard : Claim7 := { stood := { row := callsBackUptoRow, standIns := [], harness := (true, "8a669678651900b511eecfe77f1c0dd32447eba6a54d8a7e8893d42365947df4"), looks := true }, kinds := [], alts := [], laidByText := true, laidKinds := [.data, .handle], laidTests := true, laidLooks := .later }
def CallsBackUptoCardSaid : Prop := Claim7.holds Tryz.pinned (.plain (OpenSpec.upto callsBackSpec)) callsBackUptoCard

/-- THE SECOND FORM's CARD OF 'haruspexlaw19.CallsChain'. -/
def callsChainUptoCard : Claim7 := { stood := { row := callsChainUptoRow, standIns := [], harness := (true, "8a669678651900b511eecfe77f1c0dd32447eba6a54d8a7e8893d42365947df4"), looks := true }, kinds := [], alts := [], laidByText := true, laidKinds := [.data, .handle], laidTests := true, laidLooks := .later }
def CallsChainUptoCardSaid : Prop := Claim7.holds Tryz.pinned (.plain (OpenSpec.upto callsChainSpec)) callsChainUptoCard

/-- THE SECOND FORM's CARD OF 'haruspexlaw22.MemoryCall'. -/
def memoryCallUptoCard : Claim7 := { stood := { row := memoryCallUptoRow, standIns := [], harness := (true, "8a669678651900b511eecfe77f1c0dd32447eba6a54d8a7e8893d42365947df4"), looks := true }, kinds := [], alts := [], laidByText := true, laidKinds := [.data, .handle], laidTests := true, laidLooks := .later }
def MemoryCallUptoCardSaid : Prop := Claim7.holds Tryz.pinned (.plain (OpenSpec.upto memoryCallSpec)) memoryCallUptoCard

/-- THE SECOND FORM's CARD OF 'haruspexlaw22.MemoryStores'. -/
def memoryStoresUptoCard : Claim7 := { stood := { row := memoryStoresUptoRow, standIns := [], harness := (true, "8a669678651900b511eecfe77f1c0dd32447eba6a54d8a7e8893d42365947df4"), looks := true }, kinds := [], alts := [], laidByText := true, laidKinds := [.data, .handle], laidTests := true, laidLooks := .later }
def MemoryStoresUptoCardSaid : Prop := Claim7.holds Tryz.pinned (.plain (OpenSpec.upto memoryStoresSpec)) memoryStoresUptoCard

/-- THE SECOND FORM's CARD OF 'haruspexlaw23.FlowNone'. -/
def flowNoneUptoCard : Claim7 := { stood := { row := flowNoneUptoRow, standIns := [], harness := (true, "8a669678651900b511eecfe77f1c0dd32447eba6a54d8a7e8893d42365947df4"), looks := true }, kinds := [], alts := [], laidByText := true, laidKinds := [.data, .handle], laidTests := true, laidLooks := .later }
def FlowNoneUptoCardSaid : Prop := Claim7.holds Tryz.pinned (.plain (OpenSpec.upto flowNoneSpec)) flowNoneUptoCard

/-- THE SECOND FORM's CARD OF 'haruspexlaw28.WitnessNone'. -/
def witnessNoneUptoCard : Claim7 := { stood := { row := witnessNoneUptoRow, standIns := [], harness := (true, "8a669678651900b511eecfe77f1c0dd32447eba6a54d8a7e8893d42365947df4"), looks := true }, kinds := [], alts := [], laidByText := true, laidKinds := [.data, .handle], laidTests := true, laidLooks := .later }
def WitnessNoneUptoCardSaid : Prop := Claim7.holds Tryz.pinned (.plain (OpenSpec.upto witnessNoneSpec)) witnessNoneUptoCard
end Rows
end Go.Proofs.YtjjfahgdmaikpaaGreatDoor
