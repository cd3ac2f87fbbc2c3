/-
  NARROWER THAN 'FOR EVERY INPUT', by the rows' own cells (each row's printed sentence says how): TopTaintField: laid · TopTaintCalls: laid · TopFree: laid · TopFreeAlias: laid · TopNilField: laid · TopNilCopy: laid · TopSwap: laid · TopLists: laid · TopDeep: laid · TopNilParam: laid · TopNilReturn: laid · TopControl: laid.
  DERIVED. THE GIVEN ROWS OF THIS SEAT. 12 by the template 'for every input the law returns true; each argument reads behind the call as it read before'; 0 by the template 'total and deterministic' (their statements: YteajpblmbmncdaaGreatDoorTotals.lean).
  GIVEN WITH THE SEED: the statements are not yours to turn. If you find one false, say at which input.
  Laid BY PROGRAM, IN A SANDBOX (cutbox-rows.mjs): the forced cells as the released guide's own fill.sh prints them over the translation 5274812021fb79db… (all of the seat's roots in one cut). By AI agents, Wed Nov 11 2026. No macro, syntax, notation, axiom, sorry.
-/
import Derived.Test.YteajpblmbmncdaaGreatDoorChecked
import GoSem.Claim
import GoSem.ClaimJoined
import GoSem.ClaimMapViews
import Derived.JoinedTies
import Derived.KernelRfl
namespace Go.Proofs.YteajpblmbmncdaaGreatDoor
/- THE CELL 'sum', in the pinned program and in every row, IS THE sha256 OF THE DUMP (.gsa) THAT YteajpblmbmncdaaGreatDoorProg.lean LOADS. Nothing in Lean hashes anything: it is a label: what it is worth is what the hold of that sum in a sandbox is worth. -/
noncomputable def Tryz.pinned : Pinned := { name := "yteajpblmbmncdaagreatdoor", sum := "5274812021fb79db86aa44602dc5da184def06b90aec2170b62ca79ff99f3c8e", checked := Tryz.checked }
namespace Rows
def none {H : Type} : Left H := { results := [], args := [] }

/- WHAT THE LISTED PACKAGE-LEVEL VARIABLES READ AS WHEN THE CALL BEGINS. Each datum BY PROGRAM (the guide's laid-datum.mjs) off the statement by which the dump's own 'gosem.cut.vars' lays the variable. In a bare row this is a premise. The card (YteajpblmbmncdaaGreatDoorCards.lean) ties it to the program's text. -/
def laid_math_bits_deBruijn64tab {H : Type} : DataW H := .agg [.lit (.int .u8 0), .lit (.int .u8 1), .lit (.int .u8 56), .lit (.int .u8 2), .lit (.int .u8 57), .lit (.int .u8 49), .lit (.int .u8 28), .lit (.int .u8 3), .lit (.int .u8 61), .lit (.int .u8 58), .lit (.int .u8 42), .lit (.int .u8 50), .lit (.int .u8 38), .lit (.int .u8 29), .lit (.int .u8 17), .lit (.int .u8 4), .lit (.int .u8 62), .lit (.int .u8 47), .lit (.int .u8 59), .lit (.int .u8 36), .lit (.int .u8 45), .lit (.int .u8 43), .lit (.int .u8 51), .lit (.int .u8 22), .lit (.int .u8 53), .lit (.int .u8 39), .lit (.int .u8 33), .lit (.int .u8 30), .lit (.int .u8 24), .lit (.int .u8 18), .lit (.int .u8 12), .lit (.int .u8 5), .lit (.int .u8 63), .lit (.int .u8 55), .lit (.int .u8 48), .lit (.int .u8 27), .lit (.int .u8 60), .lit (.int .u8 41), .lit (.int .u8 37), .lit (.int .u8 16), .lit (.int .u8 46), .lit (.int .u8 35), .lit (.int .u8 44), .lit (.int .u8 21), .lit (.int .u8 52), .lit (.int .u8 32), .lit (.int .u8 23), .lit (.int .u8 11), .lit (.int .u8 54), .lit (.int .u8 26), .lit (.int .u8 40), .lit (.int .u8 15), .lit (.int .u8 34), .lit (.int .u8 20), .lit (.int .u8 31), .lit (.int .u8 10), .lit (.int .u8 25), .lit (.int .u8 14), .lit (.int .u8 19), .lit (.int .u8 9), .lit (.int .u8 13), .lit (.int .u8 8), .lit (.int .u8 7), .lit (.int .u8 6)]
def laid_errors_errorType {H : Type} : DataW H := .iface "internal/reflectlite.rtype" (.agg [.ptr (.lit (.string [101, 114, 114, 111, 114]))])

/-- 'haruspextop.TopTaintField': WHATEVER THE INPUT: true; the input reads as it did. -/
def topTaintFieldSpec : ChangeSpec := { name := "topTaintField", fn := fun _ => fun
  | [d1, d2] => { results := [.lit (.bool true)], args := [d1, d2] }
  | _ => none }
def topTaintFieldRow : OpenClaim := { program := "yteajpblmbmncdaagreatdoor", sum := "5274812021fb79db86aa44602dc5da184def06b90aec2170b62ca79ff99f3c8e", func := "haruspex/haruspextop.TopTaintField", spec := "topTaintField", inPlace := ["internal/reflectlite.ValueOf", "(internal/reflectlite.Value).Type", "(internal/reflectlite.Value).IsNil", "internal/reflectlite.TypeOf", "(internal/reflectlite.Value).Elem", "(internal/reflectlite.Value).Set"], unfollowed := true, recurses := true, named := ["errors.errorType", "math/bits.deBruijn64tab"], plainKeys := false, apart := false, laid := [("math/bits.deBruijn64tab", laid_math_bits_deBruijn64tab), ("errors.errorType", laid_errors_errorType)] }
def TopTaintFieldSaid : Prop := topTaintFieldRow.holds Tryz.pinned (OpenSpec.ofChange topTaintFieldSpec)

/-- ITS FALSE NEIGHBOUR: 'it returns false'. Refute it at one input. -/
def topTaintFieldWrong : ChangeSpec := { name := "topTaintField", fn := fun _ => fun
  | [d1, d2] => { results := [.lit (.bool false)], args := [d1, d2] }
  | _ => none }
def TopTaintFieldWrongFalsely : Prop := topTaintFieldRow.holds Tryz.pinned (OpenSpec.ofChange topTaintFieldWrong)

/-- 'haruspextop.TopTaintCalls': WHATEVER THE INPUT: true; the input reads as it did. -/
def topTaintCallsSpec : ChangeSpec := { name := "topTaintCalls", fn := fun _ => fun
  | [d1, d2] => { results := [.lit (.bool true)], args := [d1, d2] }
  | _ => none }
def topTaintCallsRow : OpenClaim := { program := "yteajpblmbmncdaagreatdoor", sum := "5274812021fb79db86aa44602dc5da184def06b90aec2170b62ca79ff99f3c8e", func := "haruspex/haruspextop.TopTaintCalls", spec := "topTaintCalls", inPlace := ["internal/reflectlite.ValueOf", "(internal/reflectlite.Value).Type", "(internal/reflectlite.Value).IsNil", "internal/reflectlite.TypeOf", "(internal/reflectlite.Value).Elem", "(internal/reflectlite.Value).Set"], unfollowed := true, recurses := true, named := ["errors.errorType", "math/bits.deBruijn64tab"], plainKeys := false, apart := false, laid := [("math/bits.deBruijn64tab", laid_math_bits_deBruijn64tab), ("errors.errorType", laid_errors_errorType)] }
def TopTaintCallsSaid : Prop := topTaintCallsRow.holds Tryz.pinned (OpenSpec.ofChange topTaintCallsSpec)

/-- ITS FALSE NEIGHBOUR: 'it returns false'. Refute it at one input. -/
def topTaintCallsWrong : ChangeSpec := { name := "topTaintCalls", fn := fun _ => fun
  | [d1, d2] => { results := [.lit (.bool false)], args := [d1, d2] }
  | _ => none }
def TopTaintCallsWrongFalsely : Prop := topTaintCallsRow.holds Tryz.pinned (OpenSpec.ofChange topTaintCallsWrong)

/-- 'haruspextop.TopFree': WHATEVER THE INPUT: true; the input reads as it did. -/
def topFreeSpec : ChangeSpec := { name := "topFree", fn := fun _ => fun
  | [d1, d2, d3] => { results := [.lit (.bool true)], args := [d1, d2, d3] }
  | _ => none }
def topFreeRow : OpenClaim := { program := "yteajpblmbmncdaagreatdoor", sum := "5274812021fb79db86aa44602dc5da184def06b90aec2170b62ca79ff99f3c8e", func := "haruspex/haruspextop.TopFree", spec := "topFree", inPlace := ["internal/reflectlite.ValueOf", "(internal/reflectlite.Value).Type", "(internal/reflectlite.Value).IsNil", "internal/reflectlite.TypeOf", "(internal/reflectlite.Value).Elem", "(internal/reflectlite.Value).Set"], unfollowed := true, recurses := true, named := ["errors.errorType", "math/bits.deBruijn64tab"], plainKeys := false, apart := false, laid := [("math/bits.deBruijn64tab", laid_math_bits_deBruijn64tab), ("errors.errorType", laid_errors_errorType)] }
def TopFreeSaid : Prop := topFreeRow.holds Tryz.pinned (OpenSpec.ofChange topFreeSpec)

/-- ITS FALSE NEIGHBOUR: 'it returns false'. Refute it at one input. -/
def topFreeWrong : ChangeSpec := { name := "topFree", fn := fun _ => fun
  | [d1, d2, d3] => { results := [.lit (.bool false)], args := [d1, d2, d3] }
  | _ => none }
def TopFreeWrongFalsely : Prop := topFreeRow.holds Tryz.pinned (OpenSpec.ofChange topFreeWrong)

/-- 'haruspextop.TopFreeAlias': WHATEVER THE INPUT: true; the input reads as it did. -/
def topFreeAliasSpec : ChangeSpec := { name := "topFreeAlias", fn := fun _ => fun
  | [d1, d2] => { results := [.lit (.bool true)], args := [d1, d2] }
  | _ => none }
def topFreeAliasRow : OpenClaim := { program := "yteajpblmbmncdaagreatdoor", sum := "5274812021fb79db86aa44602dc5da184def06b90aec2170b62ca79ff99f3c8e", func := "haruspex/haruspextop.TopFreeAlias", spec := "topFreeAlias", inPlace := ["internal/reflectlite.ValueOf", "(internal/reflectlite.Value).Type", "(internal/reflectlite.Value).IsNil", "internal/reflectlite.TypeOf", "(internal/reflectlite.Value).Elem", "(internal/reflectlite.Value).Set"], unfollowed := true, recurses := true, named := ["errors.errorType", "math/bits.deBruijn64tab"], plainKeys := false, apart := false, laid := [("math/bits.deBruijn64tab", laid_math_bits_deBruijn64tab), ("errors.errorType", laid_errors_errorType)] }
def TopFreeAliasSaid : Prop := topFreeAliasRow.holds Tryz.pinned (OpenSpec.ofChange topFreeAliasSpec)

/-- ITS FALSE NEIGHBOUR: 'it returns false'. Refute it at one input. -/
def topFreeAliasWrong : ChangeSpec := { name := "topFreeAlias", fn := fun _ => fun
  | [d1, d2] => { results := [.lit (.bool false)], args := [d1, d2] }
  | _ => none }
def TopFreeAliasWrongFalsely : Prop := topFreeAliasRow.holds Tryz.pinned (OpenSpec.ofChange topFreeAliasWrong)

/-- 'haruspextop.TopNilField': WHATEVER THE INPUT: true; the input reads as it did. -/
def topNilFieldSpec : ChangeSpec := { name := "topNilField", fn := fun _ => fun
  | [d] => { results := [.lit (.bool true)], args := [d] }
  | _ => none }
def topNilFieldRow : OpenClaim := { program := "yteajpblmbmncdaagreatdoor", sum := "5274812021fb79db86aa44602dc5da184def06b90aec2170b62ca79ff99f3c8e", func := "haruspex/haruspextop.TopNilField", spec := "topNilField", inPlace := ["internal/reflectlite.ValueOf", "(internal/reflectlite.Value).Type", "(internal/reflectlite.Value).IsNil", "internal/reflectlite.TypeOf", "(internal/reflectlite.Value).Elem", "(internal/reflectlite.Value).Set"], unfollowed := true, recurses := true, named := ["errors.errorType", "math/bits.deBruijn64tab"], plainKeys := false, apart := false, laid := [("math/bits.deBruijn64tab", laid_math_bits_deBruijn64tab), ("errors.errorType", laid_errors_errorType)] }
def TopNilFieldSaid : Prop := topNilFieldRow.holds Tryz.pinned (OpenSpec.ofChange topNilFieldSpec)

/-- ITS FALSE NEIGHBOUR: 'it returns false'. Refute it at one input. -/
def topNilFieldWrong : ChangeSpec := { name := "topNilField", fn := fun _ => fun
  | [d] => { results := [.lit (.bool false)], args := [d] }
  | _ => none }
def TopNilFieldWrongFalsely : Prop := topNilFieldRow.holds Tryz.pinned (OpenSpec.ofChange topNilFieldWrong)

/-- 'haruspextop.TopNilCopy': WHATEVER THE INPUT: true; the input reads as it did. -/
def topNilCopySpec : ChangeSpec := { name := "topNilCopy", fn := fun _ => fun
  | [d1, d2] => { results := [.lit (.bool true)], args := [d1, d2] }
  | _ => none }
def topNilCopyRow : OpenClaim := { program := "yteajpblmbmncdaagreatdoor", sum := "5274812021fb79db86aa44602dc5da184def06b90aec2170b62ca79ff99f3c8e", func := "haruspex/haruspextop.TopNilCopy", spec := "topNilCopy", inPlace := ["internal/reflectlite.ValueOf", "(internal/reflectlite.Value).Type", "(internal/reflectlite.Value).IsNil", "internal/reflectlite.TypeOf", "(internal/reflectlite.Value).Elem", "(internal/reflectlite.Value).Set"], unfollowed := true, recurses := true, named := ["errors.errorType", "math/bits.deBruijn64tab"], plainKeys := false, apart := false, laid := [("math/bits.deBruijn64tab", laid_math_bits_deBruijn64tab), ("errors.errorType", laid_errors_errorType)] }
def TopNilCopySaid : Prop := topNilCopyRow.holds Tryz.pinned (OpenSpec.ofChange topNilCopySpec)

/-- ITS FALSE NEIGHBOUR: 'it returns false'. Refute it at one input. -/
def topNilCopyWrong : ChangeSpec := { name := "topNilCopy", fn := fun _ => fun
  | [d1, d2] => { results := [.lit (.bool false)], args := [d1, d2] }
  | _ => none }
def TopNilCopyWrongFalsely : Prop := topNilCopyRow.holds Tryz.pinned (OpenSpec.ofChange topNilCopyWrong)

/-- 'haruspextop.TopSwap': WHATEVER THE INPUT: true; the input reads as it did. -/
def topSwapSpec : ChangeSpec := { name := "topSwap", fn := fun _ => fun
  | [d1, d2] => { results := [.lit (.bool true)], args := [d1, d2] }
  | _ => none }
def topSwapRow : OpenClaim := { program := "yteajpblmbmncdaagreatdoor", sum := "5274812021fb79db86aa44602dc5da184def06b90aec2170b62ca79ff99f3c8e", func := "haruspex/haruspextop.TopSwap", spec := "topSwap", inPlace := ["internal/reflectlite.ValueOf", "(internal/reflectlite.Value).Type", "(internal/reflectlite.Value).IsNil", "internal/reflectlite.TypeOf", "(internal/reflectlite.Value).Elem", "(internal/reflectlite.Value).Set"], unfollowed := true, recurses := true, named := ["errors.errorType", "math/bits.deBruijn64tab"], plainKeys := false, apart := false, laid := [("math/bits.deBruijn64tab", laid_math_bits_deBruijn64tab), ("errors.errorType", laid_errors_errorType)] }
def TopSwapSaid : Prop := topSwapRow.holds Tryz.pinned (OpenSpec.ofChange topSwapSpec)

/-- ITS FALSE NEIGHBOUR: 'it returns false'. Refute it at one input. -/
def topSwapWrong : ChangeSpec := { name := "topSwap", fn := fun _ => fun
  | [d1, d2] => { results := [.lit (.bool false)], args := [d1, d2] }
  | _ => none }
def TopSwapWrongFalsely : Prop := topSwapRow.holds Tryz.pinned (OpenSpec.ofChange topSwapWrong)

/-- 'haruspextop.TopLists': WHATEVER THE INPUT: true; the input reads as it did. -/
def topListsSpec : ChangeSpec := { name := "topLists", fn := fun _ => fun
  | [d1, d2] => { results := [.lit (.bool true)], args := [d1, d2] }
  | _ => none }
def topListsRow : OpenClaim := { program := "yteajpblmbmncdaagreatdoor", sum := "5274812021fb79db86aa44602dc5da184def06b90aec2170b62ca79ff99f3c8e", func := "haruspex/haruspextop.TopLists", spec := "topLists", inPlace := ["internal/reflectlite.ValueOf", "(internal/reflectlite.Value).Type", "(internal/reflectlite.Value).IsNil", "internal/reflectlite.TypeOf", "(internal/reflectlite.Value).Elem", "(internal/reflectlite.Value).Set"], unfollowed := true, recurses := true, named := ["errors.errorType", "math/bits.deBruijn64tab"], plainKeys := false, apart := false, laid := [("math/bits.deBruijn64tab", laid_math_bits_deBruijn64tab), ("errors.errorType", laid_errors_errorType)] }
def TopListsSaid : Prop := topListsRow.holds Tryz.pinned (OpenSpec.ofChange topListsSpec)

/-- ITS FALSE NEIGHBOUR: 'it returns false'. Refute it at one input. -/
def topListsWrong : ChangeSpec := { name := "topLists", fn := fun _ => fun
  | [d1, d2] => { results := [.lit (.bool false)], args := [d1, d2] }
  | _ => none }
def TopListsWrongFalsely : Prop := topListsRow.holds Tryz.pinned (OpenSpec.ofChange topListsWrong)

/-- 'haruspextop.TopDeep': WHATEVER THE INPUT: true; the input reads as it did. -/
def topDeepSpec : ChangeSpec := { name := "topDeep", fn := fun _ => fun
  | [d1, d2] => { results := [.lit (.bool true)], args := [d1, d2] }
  | _ => none }
def topDeepRow : OpenClaim := { program := "yteajpblmbmncdaagreatdoor", sum := "5274812021fb79db86aa44602dc5da184def06b90aec2170b62ca79ff99f3c8e", func := "haruspex/haruspextop.TopDeep", spec := "topDeep", inPlace := ["internal/reflectlite.ValueOf", "(internal/reflectlite.Value).Type", "(internal/reflectlite.Value).IsNil", "internal/reflectlite.TypeOf", "(internal/reflectlite.Value).Elem", "(internal/reflectlite.Value).Set"], unfollowed := true, recurses := true, named := ["errors.errorType", "math/bits.deBruijn64tab"], plainKeys := false, apart := false, laid := [("math/bits.deBruijn64tab", laid_math_bits_deBruijn64tab), ("errors.errorType", laid_errors_errorType)] }
def TopDeepSaid : Prop := topDeepRow.holds Tryz.pinned (OpenSpec.ofChange topDeepSpec)

/-- ITS FALSE NEIGHBOUR: 'it returns false'. Refute it at one input. -/
def topDeepWrong : ChangeSpec := { name := "topDeep", fn := fun _ => fun
  | [d1, d2] => { results := [.lit (.bool false)], args := [d1, d2] }
  | _ => none }
def TopDeepWrongFalsely : Prop := topDeepRow.holds Tryz.pinned (OpenSpec.ofChange topDeepWrong)

/-- 'haruspextop.TopNilParam': WHATEVER THE INPUT: true; the input reads as it did. -/
def topNilParamSpec : ChangeSpec := { name := "topNilParam", fn := fun _ => fun
  | [d1, d2] => { results := [.lit (.bool true)], args := [d1, d2] }
  | _ => none }
def topNilParamRow : OpenClaim := { program := "yteajpblmbmncdaagreatdoor", sum := "5274812021fb79db86aa44602dc5da184def06b90aec2170b62ca79ff99f3c8e", func := "haruspex/haruspextop.TopNilParam", spec := "topNilParam", inPlace := ["internal/reflectlite.ValueOf", "(internal/reflectlite.Value).Type", "(internal/reflectlite.Value).IsNil", "internal/reflectlite.TypeOf", "(internal/reflectlite.Value).Elem", "(internal/reflectlite.Value).Set"], unfollowed := true, recurses := true, named := ["errors.errorType", "math/bits.deBruijn64tab"], plainKeys := false, apart := false, laid := [("math/bits.deBruijn64tab", laid_math_bits_deBruijn64tab), ("errors.errorType", laid_errors_errorType)] }
def TopNilParamSaid : Prop := topNilParamRow.holds Tryz.pinned (OpenSpec.ofChange topNilParamSpec)

/-- ITS FALSE NEIGHBOUR: 'it returns false'. Refute it at one input. -/
def topNilParamWrong : ChangeSpec := { name := "topNilParam", fn := fun _ => fun
  | [d1, d2] => { results := [.lit (.bool false)], args := [d1, d2] }
  | _ => none }
def TopNilParamWrongFalsely : Prop := topNilParamRow.holds Tryz.pinned (OpenSpec.ofChange topNilParamWrong)

/-- 'haruspextop.TopNilReturn': WHATEVER THE INPUT: true; the input reads as it did. -/
def topNilReturnSpec : ChangeSpec := { name := "topNilReturn", fn := fun _ => fun
  | [d1, d2] => { results := [.lit (.bool true)], args := [d1, d2] }
  | _ => none }
def topNilReturnRow : OpenClaim := { program := "yteajpblmbmncdaagreatdoor", sum := "5274812021fb79db86aa44602dc5da184def06b90aec2170b62ca79ff99f3c8e", func := "haruspex/haruspextop.TopNilReturn", spec := "topNilReturn", inPlace := ["internal/reflectlite.ValueOf", "(internal/reflectlite.Value).Type", "(internal/reflectlite.Value).IsNil", "internal/reflectlite.TypeOf", "(internal/reflectlite.Value).Elem", "(internal/reflectlite.Value).Set"], unfollowed := true, recurses := true, named := ["errors.errorType", "math/bits.deBruijn64tab"], plainKeys := false, apart := false, laid := [("math/bits.deBruijn64tab", laid_math_bits_deBruijn64tab), ("errors.errorType", laid_errors_errorType)] }
def TopNilReturnSaid : Prop := topNilReturnRow.holds Tryz.pinned (OpenSpec.ofChange topNilReturnSpec)

/-- ITS FALSE NEIGHBOUR: 'it returns false'. Refute it at one input. -/
def topNilReturnWrong : ChangeSpec := { name := "topNilReturn", fn := fun _ => fun
  | [d1, d2] => { results := [.lit (.bool false)], args := [d1, d2] }
  | _ => none }
def TopNilReturnWrongFalsely : Prop := topNilReturnRow.holds Tryz.pinned (OpenSpec.ofChange topNilReturnWrong)

/-- 'haruspextop.TopControl': WHATEVER THE INPUT: true; the input reads as it did. -/
def topControlSpec : ChangeSpec := { name := "topControl", fn := fun _ => fun
  | [d] => { results := [.lit (.bool true)], args := [d] }
  | _ => none }
def topControlRow : OpenClaim := { program := "yteajpblmbmncdaagreatdoor", sum := "5274812021fb79db86aa44602dc5da184def06b90aec2170b62ca79ff99f3c8e", func := "haruspex/haruspextop.TopControl", spec := "topControl", inPlace := ["internal/reflectlite.ValueOf", "(internal/reflectlite.Value).Type", "(internal/reflectlite.Value).IsNil", "internal/reflectlite.TypeOf", "(internal/reflectlite.Value).Elem", "(internal/reflectlite.Value).Set"], unfollowed := true, recurses := true, named := ["errors.errorType", "math/bits.deBruijn64tab"], plainKeys := false, apart := false, laid := [("math/bits.deBruijn64tab", laid_math_bits_deBruijn64tab), ("errors.errorType", laid_errors_errorType)] }
def TopControlSaid : Prop := topControlRow.holds Tryz.pinned (OpenSpec.ofChange topControlSpec)

/-- ITS FALSE NEIGHBOUR: 'it returns false'. Refute it at one input. -/
def topControlWrong : ChangeSpec := { name := "topControl", fn := fun _ => fun
  | [d] => { results := [.lit (.bool false)], args := [d] }
  | _ => none }
def TopControlWrongFalsely : Prop := topControlRow.holds Tryz.pinned (OpenSpec.ofChange topControlWrong)

/- THE SECOND FORM. 'bulk': how many values and letters a reading holds, each counted each time it is reached (what is shared counts as often as it is met; a slice's spare places count too). A statement '..UptoSaid' is the law's where the arguments, and the package variables that the reading takes, are together of bulk at most 1048576: NARROWER than '..Said'. Prove '..Said' where nothing that the law and all that it calls make is longer than what came in: it says more and counts as full. Else prove '..UptoSaid'. A law counts once. -/
mutual
def uptoBulk {H : Type} : DataW H → Nat
  | .lit (.string bytes) => bytes.length + 1
  | .lit _ => 1
  | .nil => 1
  | .ptr d => uptoBulk d + 1
  | .slice elems spare => uptoBulkAll elems + uptoBulkAll spare + 1
  | .agg parts => uptoBulkAll parts + 1
  | .iface _ d => uptoBulk d + 1
  | .map entries => uptoBulkEntries entries + 1
  | .held _ => 1
def uptoBulkAll {H : Type} : List (DataW H) → Nat
  | [] => 0
  | d :: r => uptoBulk d + uptoBulkAll r
def uptoBulkEntries {H : Type} : List (Lit × DataW H) → Nat
  | [] => 0
  | x :: r => uptoBulkEntry x + uptoBulkEntries r
def uptoBulkEntry {H : Type} : Lit × DataW H → Nat
  | (.string bytes, d) => bytes.length + uptoBulk d + 1
  | (_, d) => uptoBulk d + 1
 end
def uptoSmall : (H : Type) → List (DataW H) → Bool := fun _ ds => decide (uptoBulkAll ds ≤ 1048576)
def OpenSpec.upto (s : _root_.Go.ChangeSpec) : _root_.Go.OpenSpec := { _root_.Go.OpenSpec.ofChange s with cond := some uptoSmall }

/-- 'haruspextop.TopTaintField', WHERE WHAT IT READS IS OF BULK AT MOST 1048576: true; the input reads as it did. -/
def topTaintFieldUptoRow : OpenClaim := { program := "yteajpblmbmncdaagreatdoor", sum := "5274812021fb79db86aa44602dc5da184def06b90aec2170b62ca79ff99f3c8e", func := "haruspex/haruspextop.TopTaintField", spec := "topTaintField", inPlace := ["internal/reflectlite.ValueOf", "(internal/reflectlite.Value).Type", "(internal/reflectlite.Value).IsNil", "internal/reflectlite.TypeOf", "(internal/reflectlite.Value).Elem", "(internal/reflectlite.Value).Set"], unfollowed := true, recurses := true, named := ["errors.errorType", "math/bits.deBruijn64tab"], plainKeys := false, apart := false, laid := [("math/bits.deBruijn64tab", laid_math_bits_deBruijn64tab), ("errors.errorType", laid_errors_errorType)], narrowed := true }
def TopTaintFieldUptoSaid : Prop := topTaintFieldUptoRow.holds Tryz.pinned (OpenSpec.upto topTaintFieldSpec)

/-- 'haruspextop.TopTaintCalls', WHERE WHAT IT READS IS OF BULK AT MOST 1048576: true; the input reads as it did. -/
def topTaintCallsUptoRow : OpenClaim := { program := "yteajpblmbmncdaagreatdoor", sum := "5274812021fb79db86aa44602dc5da184def06b90aec2170b62ca79ff99f3c8e", func := "haruspex/haruspextop.TopTaintCalls", spec := "topTaintCalls", inPlace := ["internal/reflectlite.ValueOf", "(internal/reflectlite.Value).Type", "(internal/reflectlite.Value).IsNil", "internal/reflectlite.TypeOf", "(internal/reflectlite.Value).Elem", "(internal/reflectlite.Value).Set"], unfollowed := true, recurses := true, named := ["errors.errorType", "math/bits.deBruijn64tab"], plainKeys := false, apart := false, laid := [("math/bits.deBruijn64tab", laid_math_bits_deBruijn64tab), ("errors.errorType", laid_errors_errorType)], narrowed := true }
def TopTaintCallsUptoSaid : Prop := topTaintCallsUptoRow.holds Tryz.pinned (OpenSpec.upto topTaintCallsSpec)

/-- 'haruspextop.TopFree', WHERE WHAT IT READS IS OF BULK AT MOST 1048576: true; the input reads as it did. -/
def topFreeUptoRow : OpenClaim := { program := "yteajpblmbmncdaagreatdoor", sum := "5274812021fb79db86aa44602dc5da184def06b90aec2170b62ca79ff99f3c8e", func := "haruspex/haruspextop.TopFree", spec := "topFree", inPlace := ["internal/reflectlite.ValueOf", "(internal/reflectlite.Value).Type", "(internal/reflectlite.Value).IsNil", "internal/reflectlite.TypeOf", "(internal/reflectlite.Value).Elem", "(internal/reflectlite.Value).Set"], unfollowed := true, recurses := true, named := ["errors.errorType", "math/bits.deBruijn64tab"], plainKeys := false, apart := false, laid := [("math/bits.deBruijn64tab", laid_math_bits_deBruijn64tab), ("errors.errorType", laid_errors_errorType)], narrowed := true }
def TopFreeUptoSaid : Prop := topFreeUptoRow.holds Tryz.pinned (OpenSpec.upto topFreeSpec)

/-- 'haruspextop.TopFreeAlias', WHERE WHAT IT READS IS OF BULK AT MOST 1048576: true; the input reads as it did. -/
def topFreeAliasUptoRow : OpenClaim := { program := "yteajpblmbmncdaagreatdoor", sum := "5274812021fb79db86aa44602dc5da184def06b90aec2170b62ca79ff99f3c8e", func := "haruspex/haruspextop.TopFreeAlias", spec := "topFreeAlias", inPlace := ["internal/reflectlite.ValueOf", "(internal/reflectlite.Value).Type", "(internal/reflectlite.Value).IsNil", "internal/reflectlite.TypeOf", "(internal/reflectlite.Value).Elem", "(internal/reflectlite.Value).Set"], unfollowed := true, recurses := true, named := ["errors.errorType", "math/bits.deBruijn64tab"], plainKeys := false, apart := false, laid := [("math/bits.deBruijn64tab", laid_math_bits_deBruijn64tab), ("errors.errorType", laid_errors_errorType)], narrowed := true }
def TopFreeAliasUptoSaid : Prop := topFreeAliasUptoRow.holds Tryz.pinned (OpenSpec.upto topFreeAliasSpec)

/-- 'haruspextop.TopNilField', WHERE WHAT IT READS IS OF BULK AT MOST 1048576: true; the input reads as it did. -/
def topNilFieldUptoRow : OpenClaim := { program := "yteajpblmbmncdaagreatdoor", sum := "5274812021fb79db86aa44602dc5da184def06b90aec2170b62ca79ff99f3c8e", func := "haruspex/haruspextop.TopNilField", spec := "topNilField", inPlace := ["internal/reflectlite.ValueOf", "(internal/reflectlite.Value).Type", "(internal/reflectlite.Value).IsNil", "internal/reflectlite.TypeOf", "(internal/reflectlite.Value).Elem", "(internal/reflectlite.Value).Set"], unfollowed := true, recurses := true, named := ["errors.errorType", "math/bits.deBruijn64tab"], plainKeys := false, apart := false, laid := [("math/bits.deBruijn64tab", laid_math_bits_deBruijn64tab), ("errors.errorType", laid_errors_errorType)], narrowed := true }
def TopNilFieldUptoSaid : Prop := topNilFieldUptoRow.holds Tryz.pinned (OpenSpec.upto topNilFieldSpec)

/-- 'haruspextop.TopNilCopy', WHERE WHAT IT READS IS OF BULK AT MOST 1048576: true; the input reads as it did. -/
def topNilCopyUptoRow : OpenClaim := { program := "yteajpblmbmncdaagreatdoor", sum := "5274812021fb79db86aa44602dc5da184def06b90aec2170b62ca79ff99f3c8e", func := "haruspex/haruspextop.TopNilCopy", spec := "topNilCopy", inPlace := ["internal/reflectlite.ValueOf", "(internal/reflectlite.Value).Type", "(internal/reflectlite.Value).IsNil", "internal/reflectlite.TypeOf", "(internal/reflectlite.Value).Elem", "(internal/reflectlite.Value).Set"], unfollowed := true, recurses := true, named := ["errors.errorType", "math/bits.deBruijn64tab"], plainKeys := false, apart := false, laid := [("math/bits.deBruijn64tab", laid_math_bits_deBruijn64tab), ("errors.errorType", laid_errors_errorType)], narrowed := true }
def TopNilCopyUptoSaid : Prop := topNilCopyUptoRow.holds Tryz.pinned (OpenSpec.upto topNilCopySpec)

/-- 'haruspextop.TopSwap', WHERE WHAT IT READS IS OF BULK AT MOST 1048576: true; the input reads as it did. -/
def topSwapUptoRow : OpenClaim := { program := "yteajpblmbmncdaagreatdoor", sum := "5274812021fb79db86aa44602dc5da184def06b90aec2170b62ca79ff99f3c8e", func := "haruspex/haruspextop.TopSwap", spec := "topSwap", inPlace := ["internal/reflectlite.ValueOf", "(internal/reflectlite.Value).Type", "(internal/reflectlite.Value).IsNil", "internal/reflectlite.TypeOf", "(internal/reflectlite.Value).Elem", "(internal/reflectlite.Value).Set"], unfollowed := true, recurses := true, named := ["errors.errorType", "math/bits.deBruijn64tab"], plainKeys := false, apart := false, laid := [("math/bits.deBruijn64tab", laid_math_bits_deBruijn64tab), ("errors.errorType", laid_errors_errorType)], narrowed := true }
def TopSwapUptoSaid : Prop := topSwapUptoRow.holds Tryz.pinned (OpenSpec.upto topSwapSpec)

/-- 'haruspextop.TopLists', WHERE WHAT IT READS IS OF BULK AT MOST 1048576: true; the input reads as it did. -/
def topListsUptoRow : OpenClaim := { program := "yteajpblmbmncdaagreatdoor", sum := "5274812021fb79db86aa44602dc5da184def06b90aec2170b62ca79ff99f3c8e", func := "haruspex/haruspextop.TopLists", spec := "topLists", inPlace := ["internal/reflectlite.ValueOf", "(internal/reflectlite.Value).Type", "(internal/reflectlite.Value).IsNil", "internal/reflectlite.TypeOf", "(internal/reflectlite.Value).Elem", "(internal/reflectlite.Value).Set"], unfollowed := true, recurses := true, named := ["errors.errorType", "math/bits.deBruijn64tab"], plainKeys := false, apart := false, laid := [("math/bits.deBruijn64tab", laid_math_bits_deBruijn64tab), ("errors.errorType", laid_errors_errorType)], narrowed := true }
def TopListsUptoSaid : Prop := topListsUptoRow.holds Tryz.pinned (OpenSpec.upto topListsSpec)

/-- 'haruspextop.TopDeep', WHERE WHAT IT READS IS OF BULK AT MOST 1048576: true; the input reads as it did. -/
def topDeepUptoRow : OpenClaim := { program := "yteajpblmbmncdaagreatdoor", sum := "5274812021fb79db86aa44602dc5da184def06b90aec2170b62ca79ff99f3c8e", func := "haruspex/haruspextop.TopDeep", spec := "topDeep", inPlace := ["internal/reflectlite.ValueOf", "(internal/reflectlite.Value).Type", "(internal/reflectlite.Value).IsNil", "internal/reflectlite.TypeOf", "(internal/reflectlite.Value).Elem", "(internal/reflectlite.Value).Set"], unfollowed := true, recurses := true, named := ["errors.errorType", "math/bits.deBruijn64tab"], plainKeys := false, apart := false, laid := [("math/bits.deBruijn64tab", laid_math_bits_deBruijn64tab), ("errors.errorType", laid_errors_errorType)], narrowed := true }
def TopDeepUptoSaid : Prop := topDeepUptoRow.holds Tryz.pinned (OpenSpec.upto topDeepSpec)

/-- 'haruspextop.TopNilParam', WHERE WHAT IT READS IS OF BULK AT MOST 1048576: true; the input reads as it did. -/
def topNilParamUptoRow : OpenClaim := { program := "yteajpblmbmncdaagreatdoor", sum := "5274812021fb79db86aa44602dc5da184def06b90aec2170b62ca79ff99f3c8e", func := "haruspex/haruspextop.TopNilParam", spec := "topNilParam", inPlace := ["internal/reflectlite.ValueOf", "(internal/reflectlite.Value).Type", "(internal/reflectlite.Value).IsNil", "internal/reflectlite.TypeOf", "(internal/reflectlite.Value).Elem", "(internal/reflectlite.Value).Set"], unfollowed := true, recurses := true, named := ["errors.errorType", "math/bits.deBruijn64tab"], plainKeys := false, apart := false, laid := [("math/bits.deBruijn64tab", laid_math_bits_deBruijn64tab), ("errors.errorType", laid_errors_errorType)], narrowed := true }
def TopNilParamUptoSaid : Prop := topNilParamUptoRow.holds Tryz.pinned (OpenSpec.upto topNilParamSpec)

/-- 'haruspextop.TopNilReturn', WHERE WHAT IT READS IS OF BULK AT MOST 1048576: true; the input reads as it did. -/
def topNilReturnUptoRow : OpenClaim := { program := "yteajpblmbmncdaagreatdoor", sum := "5274812021fb79db86aa44602dc5da184def06b90aec2170b62ca79ff99f3c8e", func := "haruspex/haruspextop.TopNilReturn", spec := "topNilReturn", inPlace := ["internal/reflectlite.ValueOf", "(internal/reflectlite.Value).Type", "(internal/reflectlite.Value).IsNil", "internal/reflectlite.TypeOf", "(internal/reflectlite.Value).Elem", "(internal/reflectlite.Value).Set"], unfollowed := true, recurses := true, named := ["errors.errorType", "math/bits.deBruijn64tab"], plainKeys := false, apart := false, laid := [("math/bits.deBruijn64tab", laid_math_bits_deBruijn64tab), ("errors.errorType", laid_errors_errorType)], narrowed := true }
def TopNilReturnUptoSaid : Prop := topNilReturnUptoRow.holds Tryz.pinned (OpenSpec.upto topNilReturnSpec)

/-- 'haruspextop.TopControl', WHERE WHAT IT READS IS OF BULK AT MOST 1048576: true; the input reads as it did. -/
def topControlUptoRow : OpenClaim := { program := "yteajpblmbmncdaagreatdoor", sum := "5274812021fb79db86aa44602dc5da184def06b90aec2170b62ca79ff99f3c8e", func := "haruspex/haruspextop.TopControl", spec := "topControl", inPlace := ["internal/reflectlite.ValueOf", "(internal/reflectlite.Value).Type", "(internal/reflectlite.Value).IsNil", "internal/reflectlite.TypeOf", "(internal/reflectlite.Value).Elem", "(internal/reflectlite.Value).Set"], unfollowed := true, recurses := true, named := ["errors.errorType", "math/bits.deBruijn64tab"], plainKeys := false, apart := false, laid := [("math/bits.deBruijn64tab", laid_math_bits_deBruijn64tab), ("errors.errorType", laid_errors_errorType)], narrowed := true }
def TopControlUptoSaid : Prop := topControlUptoRow.holds Tryz.pinned (OpenSpec.upto topControlSpec)

end Rows
end Go.Proofs.YteajpblmbmncdaaGreatDoor
