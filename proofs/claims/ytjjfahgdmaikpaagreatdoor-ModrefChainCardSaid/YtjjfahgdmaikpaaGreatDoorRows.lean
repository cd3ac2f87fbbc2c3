/-
  NARROWER THAN 'FOR EVERY INPUT', by the rows' own cells (each row's printed sentence says how): SolveNone: laid · SolveFields: laid · SolveDeep: laid · SolveCalls: laid · SolveRing: laid · ModrefChain: laid · CallsBack: laid · CallsChain: laid · MemoryCall: laid · MemoryStores: laid · FlowNone: laid · WitnessNone: laid.
  DERIVED. THE GIVEN ROWS OF THIS SEAT. 12 by the template 'for every input the law returns true; each argument reads behind the call as it read before'; 0 by the template 'total and deterministic' (their statements: YtjjfahgdmaikpaaGreatDoorTotals.lean).
  GIVEN WITH THE SEED: the statements are not yours to turn. If you find one false, say at which input.
  Laid BY PROGRAM, IN A SANDBOX (cutbox-rows.mjs): the forced cells as the released guide's own fill.sh prints them over the translation 3008a5c5a19ecce2… (all of the seat's roots in one cut). By AI agents, Wed Nov 11 2026. No macro, syntax, notation, axiom, sorry.
-/
import Derived.Test.YtjjfahgdmaikpaaGreatDoorChecked
import GoSem.Claim
import GoSem.ClaimJoined
import GoSem.ClaimMapViews
import Derived.JoinedTies
import Derived.KernelRfl
namespace Go.Proofs.YtjjfahgdmaikpaaGreatDoor
/- THE CELL 'sum', in the pinned program and in every row, IS THE sha256 OF THE DUMP (.gsa) THAT YtjjfahgdmaikpaaGreatDoorProg.lean LOADS. Nothing in Lean hashes anything: it is a label: what it is worth is what the hold of that sum in a sandbox is worth. -/
noncomputable def Tryz.pinned : Pinned := { name := "ytjjfahgdmaikpaagreatdoor", sum := "3008a5c5a19ecce2fcfe7871fb75f354f946f414d119948cd47b018f0332514b", checked := Tryz.checked }
namespace Rows
def none {H : Type} : Left H := { results := [], args := [] }

/- WHAT THE LISTED PACKAGE-LEVEL VARIABLES READ AS WHEN THE CALL BEGINS. Each datum BY PROGRAM (the guide's laid-datum.mjs) off the statement by which the dump's own 'gosem.cut.vars' lays the variable. In a bare row this is a premise. The card (YtjjfahgdmaikpaaGreatDoorCards.lean) ties it to the program's text. -/
def laid_math_bits_deBruijn64tab {H : Type} : DataW H := .agg [.lit (.int .u8 0), .lit (.int .u8 1), .lit (.int .u8 56), .lit (.int .u8 2), .lit (.int .u8 57), .lit (.int .u8 49), .lit (.int .u8 28), .lit (.int .u8 3), .lit (.int .u8 61), .lit (.int .u8 58), .lit (.int .u8 42), .lit (.int .u8 50), .lit (.int .u8 38), .lit (.int .u8 29), .lit (.int .u8 17), .lit (.int .u8 4), .lit (.int .u8 62), .lit (.int .u8 47), .lit (.int .u8 59), .lit (.int .u8 36), .lit (.int .u8 45), .lit (.int .u8 43), .lit (.int .u8 51), .lit (.int .u8 22), .lit (.int .u8 53), .lit (.int .u8 39), .lit (.int .u8 33), .lit (.int .u8 30), .lit (.int .u8 24), .lit (.int .u8 18), .lit (.int .u8 12), .lit (.int .u8 5), .lit (.int .u8 63), .lit (.int .u8 55), .lit (.int .u8 48), .lit (.int .u8 27), .lit (.int .u8 60), .lit (.int .u8 41), .lit (.int .u8 37), .lit (.int .u8 16), .lit (.int .u8 46), .lit (.int .u8 35), .lit (.int .u8 44), .lit (.int .u8 21), .lit (.int .u8 52), .lit (.int .u8 32), .lit (.int .u8 23), .lit (.int .u8 11), .lit (.int .u8 54), .lit (.int .u8 26), .lit (.int .u8 40), .lit (.int .u8 15), .lit (.int .u8 34), .lit (.int .u8 20), .lit (.int .u8 31), .lit (.int .u8 10), .lit (.int .u8 25), .lit (.int .u8 14), .lit (.int .u8 19), .lit (.int .u8 9), .lit (.int .u8 13), .lit (.int .u8 8), .lit (.int .u8 7), .lit (.int .u8 6)]
def laid_errors_errorType {H : Type} : DataW H := .iface "internal/reflectlite.rtype" (.agg [.ptr (.lit (.string [101, 114, 114, 111, 114]))])

/-- 'haruspexlaw18.SolveNone': WHATEVER THE INPUT: true; the input reads as it did. -/
def solveNoneSpec : ChangeSpec := { name := "solveNone", fn := fun _ => fun
  | [] => { results := [.lit (.bool true)], args := [] }
  | _ => none }
def solveNoneRow : OpenClaim := { program := "ytjjfahgdmaikpaagreatdoor", sum := "3008a5c5a19ecce2fcfe7871fb75f354f946f414d119948cd47b018f0332514b", func := "haruspex/haruspexlaw18.SolveNone", spec := "solveNone", inPlace := ["internal/reflectlite.ValueOf", "(internal/reflectlite.Value).Type", "(internal/reflectlite.Value).IsNil", "internal/reflectlite.TypeOf", "(internal/reflectlite.Value).Elem", "(internal/reflectlite.Value).Set"], unfollowed := true, recurses := true, named := ["errors.errorType", "math/bits.deBruijn64tab"], plainKeys := false, apart := false, laid := [("math/bits.deBruijn64tab", laid_math_bits_deBruijn64tab), ("errors.errorType", laid_errors_errorType)] }
def SolveNoneSaid : Prop := solveNoneRow.holds Tryz.pinned (OpenSpec.ofChange solveNoneSpec)

/-- ITS FALSE NEIGHBOUR: 'it returns false'. Refute it at one input. -/
def solveNoneWrong : ChangeSpec := { name := "solveNone", fn := fun _ => fun
  | [] => { results := [.lit (.bool false)], args := [] }
  | _ => none }
def SolveNoneWrongFalsely : Prop := solveNoneRow.holds Tryz.pinned (OpenSpec.ofChange solveNoneWrong)

/-- 'haruspexlaw18.SolveFields': WHATEVER THE INPUT: true; the input reads as it did. -/
def solveFieldsSpec : ChangeSpec := { name := "solveFields", fn := fun _ => fun
  | [d1, d2] => { results := [.lit (.bool true)], args := [d1, d2] }
  | _ => none }
def solveFieldsRow : OpenClaim := { program := "ytjjfahgdmaikpaagreatdoor", sum := "3008a5c5a19ecce2fcfe7871fb75f354f946f414d119948cd47b018f0332514b", func := "haruspex/haruspexlaw18.SolveFields", spec := "solveFields", inPlace := ["internal/reflectlite.ValueOf", "(internal/reflectlite.Value).Type", "(internal/reflectlite.Value).IsNil", "internal/reflectlite.TypeOf", "(internal/reflectlite.Value).Elem", "(internal/reflectlite.Value).Set"], unfollowed := true, recurses := true, named := ["errors.errorType", "math/bits.deBruijn64tab"], plainKeys := false, apart := false, laid := [("math/bits.deBruijn64tab", laid_math_bits_deBruijn64tab), ("errors.errorType", laid_errors_errorType)] }
def SolveFieldsSaid : Prop := solveFieldsRow.holds Tryz.pinned (OpenSpec.ofChange solveFieldsSpec)

/-- ITS FALSE NEIGHBOUR: 'it returns false'. Refute it at one input. -/
def solveFieldsWrong : ChangeSpec := { name := "solveFields", fn := fun _ => fun
  | [d1, d2] => { results := [.lit (.bool false)], args := [d1, d2] }
  | _ => none }
def SolveFieldsWrongFalsely : Prop := solveFieldsRow.holds Tryz.pinned (OpenSpec.ofChange solveFieldsWrong)

/-- 'haruspexlaw18.SolveDeep': WHATEVER THE INPUT: true; the input reads as it did. -/
def solveDeepSpec : ChangeSpec := { name := "solveDeep", fn := fun _ => fun
  | [d] => { results := [.lit (.bool true)], args := [d] }
  | _ => none }
def solveDeepRow : OpenClaim := { program := "ytjjfahgdmaikpaagreatdoor", sum := "3008a5c5a19ecce2fcfe7871fb75f354f946f414d119948cd47b018f0332514b", func := "haruspex/haruspexlaw18.SolveDeep", spec := "solveDeep", inPlace := ["internal/reflectlite.ValueOf", "(internal/reflectlite.Value).Type", "(internal/reflectlite.Value).IsNil", "internal/reflectlite.TypeOf", "(internal/reflectlite.Value).Elem", "(internal/reflectlite.Value).Set"], unfollowed := true, recurses := true, named := ["errors.errorType", "math/bits.deBruijn64tab"], plainKeys := false, apart := false, laid := [("math/bits.deBruijn64tab", laid_math_bits_deBruijn64tab), ("errors.errorType", laid_errors_errorType)] }
def SolveDeepSaid : Prop := solveDeepRow.holds Tryz.pinned (OpenSpec.ofChange solveDeepSpec)

/-- ITS FALSE NEIGHBOUR: 'it returns false'. Refute it at one input. -/
def solveDeepWrong : ChangeSpec := { name := "solveDeep", fn := fun _ => fun
  | [d] => { results := [.lit (.bool false)], args := [d] }
  | _ => none }
def SolveDeepWrongFalsely : Prop := solveDeepRow.holds Tryz.pinned (OpenSpec.ofChange solveDeepWrong)

/-- 'haruspexlaw18.SolveCalls': WHATEVER THE INPUT: true; the input reads as it did. -/
def solveCallsSpec : ChangeSpec := { name := "solveCalls", fn := fun _ => fun
  | [d] => { results := [.lit (.bool true)], args := [d] }
  | _ => none }
def solveCallsRow : OpenClaim := { program := "ytjjfahgdmaikpaagreatdoor", sum := "3008a5c5a19ecce2fcfe7871fb75f354f946f414d119948cd47b018f0332514b", func := "haruspex/haruspexlaw18.SolveCalls", spec := "solveCalls", inPlace := ["internal/reflectlite.ValueOf", "(internal/reflectlite.Value).Type", "(internal/reflectlite.Value).IsNil", "internal/reflectlite.TypeOf", "(internal/reflectlite.Value).Elem", "(internal/reflectlite.Value).Set"], unfollowed := true, recurses := true, named := ["errors.errorType", "math/bits.deBruijn64tab"], plainKeys := false, apart := false, laid := [("math/bits.deBruijn64tab", laid_math_bits_deBruijn64tab), ("errors.errorType", laid_errors_errorType)] }
def SolveCallsSaid : Prop := solveCallsRow.holds Tryz.pinned (OpenSpec.ofChange solveCallsSpec)

/-- ITS FALSE NEIGHBOUR: 'it returns false'. Refute it at one input. -/
def solveCallsWrong : ChangeSpec := { name := "solveCalls", fn := fun _ => fun
  | [d] => { results := [.lit (.bool false)], args := [d] }
  | _ => none }
def SolveCallsWrongFalsely : Prop := solveCallsRow.holds Tryz.pinned (OpenSpec.ofChange solveCallsWrong)

/-- 'haruspexlaw18.SolveRing': WHATEVER THE INPUT: true; the input reads as it did. -/
def solveRingSpec : ChangeSpec := { name := "solveRing", fn := fun _ => fun
  | [d1, d2] => { results := [.lit (.bool true)], args := [d1, d2] }
  | _ => none }
def solveRingRow : OpenClaim := { program := "ytjjfahgdmaikpaagreatdoor", sum := "3008a5c5a19ecce2fcfe7871fb75f354f946f414d119948cd47b018f0332514b", func := "haruspex/haruspexlaw18.SolveRing", spec := "solveRing", inPlace := ["internal/reflectlite.ValueOf", "(internal/reflectlite.Value).Type", "(internal/reflectlite.Value).IsNil", "internal/reflectlite.TypeOf", "(internal/reflectlite.Value).Elem", "(internal/reflectlite.Value).Set"], unfollowed := true, recurses := true, named := ["errors.errorType", "math/bits.deBruijn64tab"], plainKeys := false, apart := false, laid := [("math/bits.deBruijn64tab", laid_math_bits_deBruijn64tab), ("errors.errorType", laid_errors_errorType)] }
def SolveRingSaid : Prop := solveRingRow.holds Tryz.pinned (OpenSpec.ofChange solveRingSpec)

/-- ITS FALSE NEIGHBOUR: 'it returns false'. Refute it at one input. -/
def solveRingWrong : ChangeSpec := { name := "solveRing", fn := fun _ => fun
  | [d1, d2] => { results := [.lit (.bool false)], args := [d1, d2] }
  | _ => none }
def SolveRingWrongFalsely : Prop := solveRingRow.holds Tryz.pinned (OpenSpec.ofChange solveRingWrong)

/-- 'haruspexlaw20.ModrefChain': WHATEVER THE INPUT: true; the input reads as it did. -/
def modrefChainSpec : ChangeSpec := { name := "modrefChain", fn := fun _ => fun
  | [d1, d2] => { results := [.lit (.bool true)], args := [d1, d2] }
  | _ => none }
def modrefChainRow : OpenClaim := { program := "ytjjfahgdmaikpaagreatdoor", sum := "3008a5c5a19ecce2fcfe7871fb75f354f946f414d119948cd47b018f0332514b", func := "haruspex/haruspexlaw20.ModrefChain", spec := "modrefChain", inPlace := ["internal/reflectlite.ValueOf", "(internal/reflectlite.Value).Type", "(internal/reflectlite.Value).IsNil", "internal/reflectlite.TypeOf", "(internal/reflectlite.Value).Elem", "(internal/reflectlite.Value).Set"], unfollowed := true, recurses := true, named := ["errors.errorType", "math/bits.deBruijn64tab"], plainKeys := false, apart := false, laid := [("math/bits.deBruijn64tab", laid_math_bits_deBruijn64tab), ("errors.errorType", laid_errors_errorType)] }
def ModrefChainSaid : Prop := modrefChainRow.holds Tryz.pinned (OpenSpec.ofChange modrefChainSpec)

/-- ITS FALSE NEIGHBOUR: 'it returns false'. Refute it at one input. -/
def modrefChainWrong : ChangeSpec := { name := "modrefChain", fn := fun _ => fun
  | [d1, d2] => { results := [.lit (.bool false)], args := [d1, d2] }
  | _ => none }
def ModrefChainWrongFalsely : Prop := modrefChainRow.holds Tryz.pinned (OpenSpec.ofChange modrefChainWrong)

/-- 'haruspexlaw19.CallsBack': WHATEVER THE INPUT: true; the input reads as it did. -/
def callsBackSpec : ChangeSpec := { name := "callsBack", fn := fun _ => fun
  | [d] => { results := [.lit (.bool true)], args := [d] }
  | _ => none }
def callsBackRow : OpenClaim := { program := "ytjjfahgdmaikpaagreatdoor", sum := "3008a5c5a19ecce2fcfe7871fb75f354f946f414d119948cd47b018f0332514b", func := "haruspex/haruspexlaw19.CallsBack", spec := "callsBack", inPlace := ["internal/reflectlite.ValueOf", "(internal/reflectlite.Value).Type", "(internal/reflectlite.Value).IsNil", "internal/reflectlite.TypeOf", "(internal/reflectlite.Value).Elem", "(internal/reflectlite.Value).Set"], unfollowed := true, recurses := true, named := ["errors.errorType", "math/bits.deBruijn64tab"], plainKeys := false, apart := false, laid := [("math/bits.deBruijn64tab", laid_math_bits_deBruijn64tab), ("errors.errorType", laid_errors_errorType)] }
def CallsBackSaid : Prop := callsBackRow.holds Tryz.pinned (OpenSpec.ofChange callsBackSpec)

/-- ITS FALSE NEIGHBOUR: 'it returns false'. Refute it at one input. -/
def callsBackWrong : ChangeSpec := { name := "callsBack", fn := fun _ => fun
  | [d] => { results := [.lit (.bool false)], args := [d] }
  | _ => none }
def CallsBackWrongFalsely : Prop := callsBackRow.holds Tryz.pinned (OpenSpec.ofChange callsBackWrong)

/-- 'haruspexlaw19.CallsChain': WHATEVER THE INPUT: true; the input reads as it did. -/
def callsChainSpec : ChangeSpec := { name := "callsChain", fn := fun _ => fun
  | [d1, d2] => { results := [.lit (.bool true)], args := [d1, d2] }
  | _ => none }
def callsChainRow : OpenClaim := { program := "ytjjfahgdmaikpaagreatdoor", sum := "3008a5c5a19ecce2fcfe7871fb75f354f946f414d119948cd47b018f0332514b", func := "haruspex/haruspexlaw19.CallsChain", spec := "callsChain", inPlace := ["internal/reflectlite.ValueOf", "(internal/reflectlite.Value).Type", "(internal/reflectlite.Value).IsNil", "internal/reflectlite.TypeOf", "(internal/reflectlite.Value).Elem", "(internal/reflectlite.Value).Set"], unfollowed := true, recurses := true, named := ["errors.errorType", "math/bits.deBruijn64tab"], plainKeys := false, apart := false, laid := [("math/bits.deBruijn64tab", laid_math_bits_deBruijn64tab), ("errors.errorType", laid_errors_errorType)] }
def CallsChainSaid : Prop := callsChainRow.holds Tryz.pinned (OpenSpec.ofChange callsChainSpec)

/-- ITS FALSE NEIGHBOUR: 'it returns false'. Refute it at one input. -/
def callsChainWrong : ChangeSpec := { name := "callsChain", fn := fun _ => fun
  | [d1, d2] => { results := [.lit (.bool false)], args := [d1, d2] }
  | _ => none }
def CallsChainWrongFalsely : Prop := callsChainRow.holds Tryz.pinned (OpenSpec.ofChange callsChainWrong)

/-- 'haruspexlaw22.MemoryCall': WHATEVER THE INPUT: true; the input reads as it did. -/
def memoryCallSpec : ChangeSpec := { name := "memoryCall", fn := fun _ => fun
  | [d1, d2] => { results := [.lit (.bool true)], args := [d1, d2] }
  | _ => none }
def memoryCallRow : OpenClaim := { program := "ytjjfahgdmaikpaagreatdoor", sum := "3008a5c5a19ecce2fcfe7871fb75f354f946f414d119948cd47b018f0332514b", func := "haruspex/haruspexlaw22.MemoryCall", spec := "memoryCall", inPlace := ["internal/reflectlite.ValueOf", "(internal/reflectlite.Value).Type", "(internal/reflectlite.Value).IsNil", "internal/reflectlite.TypeOf", "(internal/reflectlite.Value).Elem", "(internal/reflectlite.Value).Set"], unfollowed := true, recurses := true, named := ["errors.errorType", "math/bits.deBruijn64tab"], plainKeys := false, apart := false, laid := [("math/bits.deBruijn64tab", laid_math_bits_deBruijn64tab), ("errors.errorType", laid_errors_errorType)] }
def MemoryCallSaid : Prop := memoryCallRow.holds Tryz.pinned (OpenSpec.ofChange memoryCallSpec)

/-- ITS FALSE NEIGHBOUR: 'it returns false'. Refute it at one input. -/
def memoryCallWrong : ChangeSpec := { name := "memoryCall", fn := fun _ => fun
  | [d1, d2] => { results := [.lit (.bool false)], args := [d1, d2] }
  | _ => none }
def MemoryCallWrongFalsely : Prop := memoryCallRow.holds Tryz.pinned (OpenSpec.ofChange memoryCallWrong)

/-- 'haruspexlaw22.MemoryStores': WHATEVER THE INPUT: true; the input reads as it did. -/
def memoryStoresSpec : ChangeSpec := { name := "memoryStores", fn := fun _ => fun
  | [d1, d2] => { results := [.lit (.bool true)], args := [d1, d2] }
  | _ => none }
def memoryStoresRow : OpenClaim := { program := "ytjjfahgdmaikpaagreatdoor", sum := "3008a5c5a19ecce2fcfe7871fb75f354f946f414d119948cd47b018f0332514b", func := "haruspex/haruspexlaw22.MemoryStores", spec := "memoryStores", inPlace := ["internal/reflectlite.ValueOf", "(internal/reflectlite.Value).Type", "(internal/reflectlite.Value).IsNil", "internal/reflectlite.TypeOf", "(internal/reflectlite.Value).Elem", "(internal/reflectlite.Value).Set"], unfollowed := true, recurses := true, named := ["errors.errorType", "math/bits.deBruijn64tab"], plainKeys := false, apart := false, laid := [("math/bits.deBruijn64tab", laid_math_bits_deBruijn64tab), ("errors.errorType", laid_errors_errorType)] }
def MemoryStoresSaid : Prop := memoryStoresRow.holds Tryz.pinned (OpenSpec.ofChange memoryStoresSpec)

/-- ITS FALSE NEIGHBOUR: 'it returns false'. Refute it at one input. -/
def memoryStoresWrong : ChangeSpec := { name := "memoryStores", fn := fun _ => fun
  | [d1, d2] => { results := [.lit (.bool false)], args := [d1, d2] }
  | _ => none }
def MemoryStoresWrongFalsely : Prop := memoryStoresRow.holds Tryz.pinned (OpenSpec.ofChange memoryStoresWrong)

/-- 'haruspexlaw23.FlowNone': WHATEVER THE INPUT: true; the input reads as it did. -/
def flowNoneSpec : ChangeSpec := { name := "flowNone", fn := fun _ => fun
  | [] => { results := [.lit (.bool true)], args := [] }
  | _ => none }
def flowNoneRow : OpenClaim := { program := "ytjjfahgdmaikpaagreatdoor", sum := "3008a5c5a19ecce2fcfe7871fb75f354f946f414d119948cd47b018f0332514b", func := "haruspex/haruspexlaw23.FlowNone", spec := "flowNone", inPlace := ["internal/reflectlite.ValueOf", "(internal/reflectlite.Value).Type", "(internal/reflectlite.Value).IsNil", "internal/reflectlite.TypeOf", "(internal/reflectlite.Value).Elem", "(internal/reflectlite.Value).Set"], unfollowed := true, recurses := true, named := ["errors.errorType", "math/bits.deBruijn64tab"], plainKeys := false, apart := false, laid := [("math/bits.deBruijn64tab", laid_math_bits_deBruijn64tab), ("errors.errorType", laid_errors_errorType)] }
def FlowNoneSaid : Prop := flowNoneRow.holds Tryz.pinned (OpenSpec.ofChange flowNoneSpec)

/-- ITS FALSE NEIGHBOUR: 'it returns false'. Refute it at one input. -/
def flowNoneWrong : ChangeSpec := { name := "flowNone", fn := fun _ => fun
  | [] => { results := [.lit (.bool false)], args := [] }
  | _ => none }
def FlowNoneWrongFalsely : Prop := flowNoneRow.holds Tryz.pinned (OpenSpec.ofChange flowNoneWrong)

/-- 'haruspexlaw28.WitnessNone': WHATEVER THE INPUT: true; the input reads as it did. -/
def witnessNoneSpec : ChangeSpec := { name := "witnessNone", fn := fun _ => fun
  | [] => { results := [.lit (.bool true)], args := [] }
  | _ => none }
def witnessNoneRow : OpenClaim := { program := "ytjjfahgdmaikpaagreatdoor", sum := "3008a5c5a19ecce2fcfe7871fb75f354f946f414d119948cd47b018f0332514b", func := "haruspex/haruspexlaw28.WitnessNone", spec := "witnessNone", inPlace := ["internal/reflectlite.ValueOf", "(internal/reflectlite.Value).Type", "(internal/reflectlite.Value).IsNil", "internal/reflectlite.TypeOf", "(internal/reflectlite.Value).Elem", "(internal/reflectlite.Value).Set"], unfollowed := true, recurses := true, named := ["errors.errorType", "math/bits.deBruijn64tab"], plainKeys := false, apart := false, laid := [("math/bits.deBruijn64tab", laid_math_bits_deBruijn64tab), ("errors.errorType", laid_errors_errorType)] }
def WitnessNoneSaid : Prop := witnessNoneRow.holds Tryz.pinned (OpenSpec.ofChange witnessNoneSpec)

/-- ITS FALSE NEIGHBOUR: 'it returns false'. Refute it at one input. -/
def witnessNoneWrong : ChangeSpec := { name := "witnessNone", fn := fun _ => fun
  | [] => { results := [.lit (.bool false)], args := [] }
  | _ => none }
def WitnessNoneWrongFalsely : Prop := witnessNoneRow.holds Tryz.pinned (OpenSpec.ofChange witnessNoneWrong)

/- THE SECOND FORM. 'bulk': how many values and letters a reading holds, each counted each time it is reached (what is shared counts as often as it is met; a slice's spare places count too). A statement '..UptoSaid' is the law's where the arguments, and the package variables that the reading takes, are together of bulk at most 1048576: NARROWER than '..Said'. Prove '..Said' where nothing that the law and all that it calls make is longer than what came in: it says more and counts as full. Else prove '..UptoSaid'. A law counts once. -/
mutual
def uptoBulk {H : Type} : DataW H → Nat
  | .lit (.string bytes) => bytes.length + 1
  | .lit _ => 1
  | .nil => 1
  | .ptr d => uptoBulk d + 1
  | .slice elems spare => uptoBulkAll elems + uptoBulkAll spare + 1
  | .agg parts => uptoBulkAll parts + 1
  | .iface _ d => uptoBulk d + 1
  | .map entries => uptoBulkEntries entries + 1
  | .held _ => 1
def uptoBulkAll {H : Type} : List (DataW H) → Nat
  | [] => 0
  | d :: r => uptoBulk d + uptoBulkAll r
def uptoBulkEntries {H : Type} : List (Lit × DataW H) → Nat
  | [] => 0
  | x :: r => uptoBulkEntry x + uptoBulkEntries r
def uptoBulkEntry {H : Type} : Lit × DataW H → Nat
  | (.string bytes, d) => bytes.length + uptoBulk d + 1
  | (_, d) => uptoBulk d + 1
 end
def uptoSmall : (H : Type) → List (DataW H) → Bool := fun _ ds => decide (uptoBulkAll ds ≤ 1048576)
def OpenSpec.upto (s : _root_.Go.ChangeSpec) : _root_.Go.OpenSpec := { _root_.Go.OpenSpec.ofChange s with cond := some uptoSmall }

/-- 'haruspexlaw18.SolveNone', WHERE WHAT IT READS IS OF BULK AT MOST 1048576: true; the input reads as it did. -/
def solveNoneUptoRow : OpenClaim := { program := "ytjjfahgdmaikpaagreatdoor", sum := "3008a5c5a19ecce2fcfe7871fb75f354f946f414d119948cd47b018f0332514b", func := "haruspex/haruspexlaw18.SolveNone", spec := "solveNone", inPlace := ["internal/reflectlite.ValueOf", "(internal/reflectlite.Value).Type", "(internal/reflectlite.Value).IsNil", "internal/reflectlite.TypeOf", "(internal/reflectlite.Value).Elem", "(internal/reflectlite.Value).Set"], unfollowed := true, recurses := true, named := ["errors.errorType", "math/bits.deBruijn64tab"], plainKeys := false, apart := false, laid := [("math/bits.deBruijn64tab", laid_math_bits_deBruijn64tab), ("errors.errorType", laid_errors_errorType)], narrowed := true }
def SolveNoneUptoSaid : Prop := solveNoneUptoRow.holds Tryz.pinned (OpenSpec.upto solveNoneSpec)

/-- 'haruspexlaw18.SolveFields', WHERE WHAT IT READS IS OF BULK AT MOST 1048576: true; the input reads as it did. -/
def solveFieldsUptoRow : OpenClaim := { program := "ytjjfahgdmaikpaagreatdoor", sum := "3008a5c5a19ecce2fcfe7871fb75f354f946f414d119948cd47b018f0332514b", func := "haruspex/haruspexlaw18.SolveFields", spec := "solveFields", inPlace := ["internal/reflectlite.ValueOf", "(internal/reflectlite.Value).Type", "(internal/reflectlite.Value).IsNil", "internal/reflectlite.TypeOf", "(internal/reflectlite.Value).Elem", "(internal/reflectlite.Value).Set"], unfollowed := true, recurses := true, named := ["errors.errorType", "math/bits.deBruijn64tab"], plainKeys := false, apart := false, laid := [("math/bits.deBruijn64tab", laid_math_bits_deBruijn64tab), ("errors.errorType", laid_errors_errorType)], narrowed := true }
def SolveFieldsUptoSaid : Prop := solveFieldsUptoRow.holds Tryz.pinned (OpenSpec.upto solveFieldsSpec)

/-- 'haruspexlaw18.SolveDeep', WHERE WHAT IT READS IS OF BULK AT MOST 1048576: true; the input reads as it did. -/
def solveDeepUptoRow : OpenClaim := { program := "ytjjfahgdmaikpaagreatdoor", sum := "3008a5c5a19ecce2fcfe7871fb75f354f946f414d119948cd47b018f0332514b", func := "haruspex/haruspexlaw18.SolveDeep", spec := "solveDeep", inPlace := ["internal/reflectlite.ValueOf", "(internal/reflectlite.Value).Type", "(internal/reflectlite.Value).IsNil", "internal/reflectlite.TypeOf", "(internal/reflectlite.Value).Elem", "(internal/reflectlite.Value).Set"], unfollowed := true, recurses := true, named := ["errors.errorType", "math/bits.deBruijn64tab"], plainKeys := false, apart := false, laid := [("math/bits.deBruijn64tab", laid_math_bits_deBruijn64tab), ("errors.errorType", laid_errors_errorType)], narrowed := true }
def SolveDeepUptoSaid : Prop := solveDeepUptoRow.holds Tryz.pinned (OpenSpec.upto solveDeepSpec)

/-- 'haruspexlaw18.SolveCalls', WHERE WHAT IT READS IS OF BULK AT MOST 1048576: true; the input reads as it did. -/
def solveCallsUptoRow : OpenClaim := { program := "ytjjfahgdmaikpaagreatdoor", sum := "3008a5c5a19ecce2fcfe7871fb75f354f946f414d119948cd47b018f0332514b", func := "haruspex/haruspexlaw18.SolveCalls", spec := "solveCalls", inPlace := ["internal/reflectlite.ValueOf", "(internal/reflectlite.Value).Type", "(internal/reflectlite.Value).IsNil", "internal/reflectlite.TypeOf", "(internal/reflectlite.Value).Elem", "(internal/reflectlite.Value).Set"], unfollowed := true, recurses := true, named := ["errors.errorType", "math/bits.deBruijn64tab"], plainKeys := false, apart := false, laid := [("math/bits.deBruijn64tab", laid_math_bits_deBruijn64tab), ("errors.errorType", laid_errors_errorType)], narrowed := true }
def SolveCallsUptoSaid : Prop := solveCallsUptoRow.holds Tryz.pinned (OpenSpec.upto solveCallsSpec)

/-- 'haruspexlaw18.SolveRing', WHERE WHAT IT READS IS OF BULK AT MOST 1048576: true; the input reads as it did. -/
def solveRingUptoRow : OpenClaim := { program := "ytjjfahgdmaikpaagreatdoor", sum := "3008a5c5a19ecce2fcfe7871fb75f354f946f414d119948cd47b018f0332514b", func := "haruspex/haruspexlaw18.SolveRing", spec := "solveRing", inPlace := ["internal/reflectlite.ValueOf", "(internal/reflectlite.Value).Type", "(internal/reflectlite.Value).IsNil", "internal/reflectlite.TypeOf", "(internal/reflectlite.Value).Elem", "(internal/reflectlite.Value).Set"], unfollowed := true, recurses := true, named := ["errors.errorType", "math/bits.deBruijn64tab"], plainKeys := false, apart := false, laid := [("math/bits.deBruijn64tab", laid_math_bits_deBruijn64tab), ("errors.errorType", laid_errors_errorType)], narrowed := true }
def SolveRingUptoSaid : Prop := solveRingUptoRow.holds Tryz.pinned (OpenSpec.upto solveRingSpec)

/-- 'haruspexlaw20.ModrefChain', WHERE WHAT IT READS IS OF BULK AT MOST 1048576: true; the input reads as it did. -/
def modrefChainUptoRow : OpenClaim := { program := "ytjjfahgdmaikpaagreatdoor", sum := "3008a5c5a19ecce2fcfe7871fb75f354f946f414d119948cd47b018f0332514b", func := "haruspex/haruspexlaw20.ModrefChain", spec := "modrefChain", inPlace := ["internal/reflectlite.ValueOf", "(internal/reflectlite.Value).Type", "(internal/reflectlite.Value).IsNil", "internal/reflectlite.TypeOf", "(internal/reflectlite.Value).Elem", "(internal/reflectlite.Value).Set"], unfollowed := true, recurses := true, named := ["errors.errorType", "math/bits.deBruijn64tab"], plainKeys := false, apart := false, laid := [("math/bits.deBruijn64tab", laid_math_bits_deBruijn64tab), ("errors.errorType", laid_errors_errorType)], narrowed := true }
def ModrefChainUptoSaid : Prop := modrefChainUptoRow.holds Tryz.pinned (OpenSpec.upto modrefChainSpec)

/-- 'haruspexlaw19.CallsBack', WHERE WHAT IT READS IS OF BULK AT MOST 1048576: true; the input reads as it did. -/
def callsBackUptoRow : OpenClaim := { program := "ytjjfahgdmaikpaagreatdoor", sum := "3008a5c5a19ecce2fcfe7871fb75f354f946f414d119948cd47b018f0332514b", func := "haruspex/haruspexlaw19.CallsBack", spec := "callsBack", inPlace := ["internal/reflectlite.ValueOf", "(internal/reflectlite.Value).Type", "(internal/reflectlite.Value).IsNil", "internal/reflectlite.TypeOf", "(internal/reflectlite.Value).Elem", "(internal/reflectlite.Value).Set"], unfollowed := true, recurses := true, named := ["errors.errorType", "math/bits.deBruijn64tab"], plainKeys := false, apart := false, laid := [("math/bits.deBruijn64tab", laid_math_bits_deBruijn64tab), ("errors.errorType", laid_errors_errorType)], narrowed := true }
def CallsBackUptoSaid : Prop := callsBackUptoRow.holds Tryz.pinned (OpenSpec.upto callsBackSpec)

/-- 'haruspexlaw19.CallsChain', WHERE WHAT IT READS IS OF BULK AT MOST 1048576: true; the input reads as it did. -/
def callsChainUptoRow : OpenClaim := { program := "ytjjfahgdmaikpaagreatdoor", sum := "3008a5c5a19ecce2fcfe7871fb75f354f946f414d119948cd47b018f0332514b", func := "haruspex/haruspexlaw19.CallsChain", spec := "callsChain", inPlace := ["internal/reflectlite.ValueOf", "(internal/reflectlite.Value).Type", "(internal/reflectlite.Value).IsNil", "internal/reflectlite.TypeOf", "(internal/reflectlite.Value).Elem", "(internal/reflectlite.Value).Set"], unfollowed := true, recurses := true, named := ["errors.errorType", "math/bits.deBruijn64tab"], plainKeys := false, apart := false, laid := [("math/bits.deBruijn64tab", laid_math_bits_deBruijn64tab), ("errors.errorType", laid_errors_errorType)], narrowed := true }
def CallsChainUptoSaid : Prop := callsChainUptoRow.holds Tryz.pinned (OpenSpec.upto callsChainSpec)

/-- 'haruspexlaw22.MemoryCall', WHERE WHAT IT READS IS OF BULK AT MOST 1048576: true; the input reads as it did. -/
def memoryCallUptoRow : OpenClaim := { program := "ytjjfahgdmaikpaagreatdoor", sum := "3008a5c5a19ecce2fcfe7871fb75f354f946f414d119948cd47b018f0332514b", func := "haruspex/haruspexlaw22.MemoryCall", spec := "memoryCall", inPlace := ["internal/reflectlite.ValueOf", "(internal/reflectlite.Value).Type", "(internal/reflectlite.Value).IsNil", "internal/reflectlite.TypeOf", "(internal/reflectlite.Value).Elem", "(internal/reflectlite.Value).Set"], unfollowed := true, recurses := true, named := ["errors.errorType", "math/bits.deBruijn64tab"], plainKeys := false, apart := false, laid := [("math/bits.deBruijn64tab", laid_math_bits_deBruijn64tab), ("errors.errorType", laid_errors_errorType)], narrowed := true }
def MemoryCallUptoSaid : Prop := memoryCallUptoRow.holds Tryz.pinned (OpenSpec.upto memoryCallSpec)

/-- 'haruspexlaw22.MemoryStores', WHERE WHAT IT READS IS OF BULK AT MOST 1048576: true; the input reads as it did. -/
def memoryStoresUptoRow : OpenClaim := { program := "ytjjfahgdmaikpaagreatdoor", sum := "3008a5c5a19ecce2fcfe7871fb75f354f946f414d119948cd47b018f0332514b", func := "haruspex/haruspexlaw22.MemoryStores", spec := "memoryStores", inPlace := ["internal/reflectlite.ValueOf", "(internal/reflectlite.Value).Type", "(internal/reflectlite.Value).IsNil", "internal/reflectlite.TypeOf", "(internal/reflectlite.Value).Elem", "(internal/reflectlite.Value).Set"], unfollowed := true, recurses := true, named := ["errors.errorType", "math/bits.deBruijn64tab"], plainKeys := false, apart := false, laid := [("math/bits.deBruijn64tab", laid_math_bits_deBruijn64tab), ("errors.errorType", laid_errors_errorType)], narrowed := true }
def MemoryStoresUptoSaid : Prop := memoryStoresUptoRow.holds Tryz.pinned (OpenSpec.upto memoryStoresSpec)

/-- 'haruspexlaw23.FlowNone', WHERE WHAT IT READS IS OF BULK AT MOST 1048576: true; the input reads as it did. -/
def flowNoneUptoRow : OpenClaim := { program := "ytjjfahgdmaikpaagreatdoor", sum := "3008a5c5a19ecce2fcfe7871fb75f354f946f414d119948cd47b018f0332514b", func := "haruspex/haruspexlaw23.FlowNone", spec := "flowNone", inPlace := ["internal/reflectlite.ValueOf", "(internal/reflectlite.Value).Type", "(internal/reflectlite.Value).IsNil", "internal/reflectlite.TypeOf", "(internal/reflectlite.Value).Elem", "(internal/reflectlite.Value).Set"], unfollowed := true, recurses := true, named := ["errors.errorType", "math/bits.deBruijn64tab"], plainKeys := false, apart := false, laid := [("math/bits.deBruijn64tab", laid_math_bits_deBruijn64tab), ("errors.errorType", laid_errors_errorType)], narrowed := true }
def FlowNoneUptoSaid : Prop := flowNoneUptoRow.holds Tryz.pinned (OpenSpec.upto flowNoneSpec)

/-- 'haruspexlaw28.WitnessNone', WHERE WHAT IT READS IS OF BULK AT MOST 1048576: true; the input reads as it did. -/
def witnessNoneUptoRow : OpenClaim := { program := "ytjjfahgdmaikpaagreatdoor", sum := "3008a5c5a19ecce2fcfe7871fb75f354f946f414d119948cd47b018f0332514b", func := "haruspex/haruspexlaw28.WitnessNone", spec := "witnessNone", inPlace := ["internal/reflectlite.ValueOf", "(internal/reflectlite.Value).Type", "(internal/reflectlite.Value).IsNil", "internal/reflectlite.TypeOf", "(internal/reflectlite.Value).Elem", "(internal/reflectlite.Value).Set"], unfollowed := true, recurses := true, named := ["errors.errorType", "math/bits.deBruijn64tab"], plainKeys := false, apart := false, laid := [("math/bits.deBruijn64tab", laid_math_bits_deBruijn64tab), ("errors.errorType", laid_errors_errorType)], narrowed := true }
def WitnessNoneUptoSaid : Prop := witnessNoneUptoRow.holds Tryz.pinned (OpenSpec.upto witnessNoneSpec)

end Rows
end Go.Proofs.YtjjfahgdmaikpaaGreatDoor
