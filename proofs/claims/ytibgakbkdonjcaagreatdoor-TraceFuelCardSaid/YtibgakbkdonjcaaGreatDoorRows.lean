/-
  NARROWER THAN 'FOR EVERY INPUT', by the rows' own cells (each row's printed sentence says how): TraceRun: laid · TraceMore: laid · TraceTwins: laid · TraceTold: laid · TraceFuel: laid.
  DERIVED. THE GIVEN ROWS OF THIS SEAT. 5 by the template 'for every input the law returns true; each argument reads behind the call as it read before'; 0 by the template 'total and deterministic' (their statements: YtibgakbkdonjcaaGreatDoorTotals.lean).
  GIVEN WITH THE SEED: the statements are not yours to turn. If you find one false, say at which input.
  Laid BY PROGRAM, IN A SANDBOX (cutbox-rows.mjs): the forced cells as the released guide's own fill.sh prints them over the translation 4bc401410ba1c509… (all of the seat's roots in one cut). By AI agents, Wed Nov 11 2026. No macro, syntax, notation, axiom, sorry.
-/
import Derived.Test.YtibgakbkdonjcaaGreatDoorChecked
import GoSem.Claim
import GoSem.ClaimJoined
import GoSem.ClaimMapViews
import Derived.JoinedTies
import Derived.KernelRfl
namespace Go.Proofs.YtibgakbkdonjcaaGreatDoor
/- THE CELL 'sum', in the pinned program and in every row, IS THE sha256 OF THE DUMP (.gsa) THAT YtibgakbkdonjcaaGreatDoorProg.lean LOADS. Nothing in Lean hashes anything: it is a label: what it is worth is what the hold of that sum in a sandbox is worth. -/
noncomputable def Tryz.pinned : Pinned := { name := "ytibgakbkdonjcaagreatdoor", sum := "4bc401410ba1c509a164bbe367183d576b437c37436dbdeaa5ee484aee91f879", checked := Tryz.checked }
namespace Rows
def none {H : Type} : Left H := { results := [], args := [] }

/- WHAT THE LISTED PACKAGE-LEVEL VARIABLES READ AS WHEN THE CALL BEGINS. Each datum BY PROGRAM (the guide's laid-datum.mjs) off the statement by which the dump's own 'gosem.cut.vars' lays the variable. In a bare row this is a premise. The card (YtibgakbkdonjcaaGreatDoorCards.lean) ties it to the program's text. -/
def laid_errors_errorType {H : Type} : DataW H := .iface "internal/reflectlite.rtype" (.agg [.ptr (.lit (.string [101, 114, 114, 111, 114]))])

/-- 'haruspexlaw15.TraceRun': WHATEVER THE INPUT: true; the input reads as it did. -/
def traceRunSpec : ChangeSpec := { name := "traceRun", fn := fun _ => fun
  | [d1, d2, d3] => { results := [.lit (.bool true)], args := [d1, d2, d3] }
  | _ => none }
def traceRunRow : OpenClaim := { program := "ytibgakbkdonjcaagreatdoor", sum := "4bc401410ba1c509a164bbe367183d576b437c37436dbdeaa5ee484aee91f879", func := "haruspex/haruspexlaw15.TraceRun", spec := "traceRun", inPlace := ["internal/reflectlite.ValueOf", "(internal/reflectlite.Value).Type", "(internal/reflectlite.Value).IsNil", "internal/reflectlite.TypeOf", "(internal/reflectlite.Value).Elem", "(internal/reflectlite.Value).Set"], unfollowed := true, recurses := true, named := ["errors.errorType"], plainKeys := false, apart := false, laid := [("errors.errorType", laid_errors_errorType)] }
def TraceRunSaid : Prop := traceRunRow.holds Tryz.pinned (OpenSpec.ofChange traceRunSpec)

/-- ITS FALSE NEIGHBOUR: 'it returns false'. Refute it at one input. -/
def traceRunWrong : ChangeSpec := { name := "traceRun", fn := fun _ => fun
  | [d1, d2, d3] => { results := [.lit (.bool false)], args := [d1, d2, d3] }
  | _ => none }
def TraceRunWrongFalsely : Prop := traceRunRow.holds Tryz.pinned (OpenSpec.ofChange traceRunWrong)

/-- 'haruspexlaw15.TraceMore': WHATEVER THE INPUT: true; the input reads as it did. -/
def traceMoreSpec : ChangeSpec := { name := "traceMore", fn := fun _ => fun
  | [d1, d2, d3, d4] => { results := [.lit (.bool true)], args := [d1, d2, d3, d4] }
  | _ => none }
def traceMoreRow : OpenClaim := { program := "ytibgakbkdonjcaagreatdoor", sum := "4bc401410ba1c509a164bbe367183d576b437c37436dbdeaa5ee484aee91f879", func := "haruspex/haruspexlaw15.TraceMore", spec := "traceMore", inPlace := ["internal/reflectlite.ValueOf", "(internal/reflectlite.Value).Type", "(internal/reflectlite.Value).IsNil", "internal/reflectlite.TypeOf", "(internal/reflectlite.Value).Elem", "(internal/reflectlite.Value).Set"], unfollowed := true, recurses := true, named := ["errors.errorType"], plainKeys := false, apart := false, laid := [("errors.errorType", laid_errors_errorType)] }
def TraceMoreSaid : Prop := traceMoreRow.holds Tryz.pinned (OpenSpec.ofChange traceMoreSpec)

/-- ITS FALSE NEIGHBOUR: 'it returns false'. Refute it at one input. -/
def traceMoreWrong : ChangeSpec := { name := "traceMore", fn := fun _ => fun
  | [d1, d2, d3, d4] => { results := [.lit (.bool false)], args := [d1, d2, d3, d4] }
  | _ => none }
def TraceMoreWrongFalsely : Prop := traceMoreRow.holds Tryz.pinned (OpenSpec.ofChange traceMoreWrong)

/-- 'haruspexlaw15.TraceTwins': WHATEVER THE INPUT: true; the input reads as it did. -/
def traceTwinsSpec : ChangeSpec := { name := "traceTwins", fn := fun _ => fun
  | [d1, d2, d3, d4] => { results := [.lit (.bool true)], args := [d1, d2, d3, d4] }
  | _ => none }
def traceTwinsRow : OpenClaim := { program := "ytibgakbkdonjcaagreatdoor", sum := "4bc401410ba1c509a164bbe367183d576b437c37436dbdeaa5ee484aee91f879", func := "haruspex/haruspexlaw15.TraceTwins", spec := "traceTwins", inPlace := ["internal/reflectlite.ValueOf", "(internal/reflectlite.Value).Type", "(internal/reflectlite.Value).IsNil", "internal/reflectlite.TypeOf", "(internal/reflectlite.Value).Elem", "(internal/reflectlite.Value).Set"], unfollowed := true, recurses := true, named := ["errors.errorType"], plainKeys := false, apart := false, laid := [("errors.errorType", laid_errors_errorType)] }
def TraceTwinsSaid : Prop := traceTwinsRow.holds Tryz.pinned (OpenSpec.ofChange traceTwinsSpec)

/-- ITS FALSE NEIGHBOUR: 'it returns false'. Refute it at one input. -/
def traceTwinsWrong : ChangeSpec := { name := "traceTwins", fn := fun _ => fun
  | [d1, d2, d3, d4] => { results := [.lit (.bool false)], args := [d1, d2, d3, d4] }
  | _ => none }
def TraceTwinsWrongFalsely : Prop := traceTwinsRow.holds Tryz.pinned (OpenSpec.ofChange traceTwinsWrong)

/-- 'haruspexlaw15.TraceTold': WHATEVER THE INPUT: true; the input reads as it did. -/
def traceToldSpec : ChangeSpec := { name := "traceTold", fn := fun _ => fun
  | [d1, d2, d3] => { results := [.lit (.bool true)], args := [d1, d2, d3] }
  | _ => none }
def traceToldRow : OpenClaim := { program := "ytibgakbkdonjcaagreatdoor", sum := "4bc401410ba1c509a164bbe367183d576b437c37436dbdeaa5ee484aee91f879", func := "haruspex/haruspexlaw15.TraceTold", spec := "traceTold", inPlace := ["internal/reflectlite.ValueOf", "(internal/reflectlite.Value).Type", "(internal/reflectlite.Value).IsNil", "internal/reflectlite.TypeOf", "(internal/reflectlite.Value).Elem", "(internal/reflectlite.Value).Set"], unfollowed := true, recurses := true, named := ["errors.errorType"], plainKeys := false, apart := false, laid := [("errors.errorType", laid_errors_errorType)] }
def TraceToldSaid : Prop := traceToldRow.holds Tryz.pinned (OpenSpec.ofChange traceToldSpec)

/-- ITS FALSE NEIGHBOUR: 'it returns false'. Refute it at one input. -/
def traceToldWrong : ChangeSpec := { name := "traceTold", fn := fun _ => fun
  | [d1, d2, d3] => { results := [.lit (.bool false)], args := [d1, d2, d3] }
  | _ => none }
def TraceToldWrongFalsely : Prop := traceToldRow.holds Tryz.pinned (OpenSpec.ofChange traceToldWrong)

/-- 'haruspexlaw15.TraceFuel': WHATEVER THE INPUT: true; the input reads as it did. -/
def traceFuelSpec : ChangeSpec := { name := "traceFuel", fn := fun _ => fun
  | [d] => { results := [.lit (.bool true)], args := [d] }
  | _ => none }
def traceFuelRow : OpenClaim := { program := "ytibgakbkdonjcaagreatdoor", sum := "4bc401410ba1c509a164bbe367183d576b437c37436dbdeaa5ee484aee91f879", func := "haruspex/haruspexlaw15.TraceFuel", spec := "traceFuel", inPlace := ["internal/reflectlite.ValueOf", "(internal/reflectlite.Value).Type", "(internal/reflectlite.Value).IsNil", "internal/reflectlite.TypeOf", "(internal/reflectlite.Value).Elem", "(internal/reflectlite.Value).Set"], unfollowed := true, recurses := true, named := ["errors.errorType"], plainKeys := false, apart := false, laid := [("errors.errorType", laid_errors_errorType)] }
def TraceFuelSaid : Prop := traceFuelRow.holds Tryz.pinned (OpenSpec.ofChange traceFuelSpec)

/-- ITS FALSE NEIGHBOUR: 'it returns false'. Refute it at one input. -/
def traceFuelWrong : ChangeSpec := { name := "traceFuel", fn := fun _ => fun
  | [d] => { results := [.lit (.bool false)], args := [d] }
  | _ => none }
def TraceFuelWrongFalsely : Prop := traceFuelRow.holds Tryz.pinned (OpenSpec.ofChange traceFuelWrong)

/- THE SECOND FORM. 'bulk': how many values and letters a reading holds, each counted each time it is reached (what is shared counts as often as it is met; a slice's spare places count too). A statement '..UptoSaid' is the law's where the arguments, and the package variables that the reading takes, are together of bulk at most 1048576: NARROWER than '..Said'. Prove '..Said' where nothing that the law and all that it calls make is longer than what came in: it says more and counts as full. Else prove '..UptoSaid'. A law counts once. -/
mutual
def uptoBulk {H : Type} : DataW H → Nat
  | .lit (.string bytes) => bytes.length + 1
  | .lit _ => 1
  | .nil => 1
  | .ptr d => uptoBulk d + 1
  | .slice elems spare => uptoBulkAll elems + uptoBulkAll spare + 1
  | .agg parts => uptoBulkAll parts + 1
  | .iface _ d => uptoBulk d + 1
  | .map entries => uptoBulkEntries entries + 1
  | .held _ => 1
def uptoBulkAll {H : Type} : List (DataW H) → Nat
  | [] => 0
  | d :: r => uptoBulk d + uptoBulkAll r
def uptoBulkEntries {H : Type} : List (Lit × DataW H) → Nat
  | [] => 0
  | x :: r => uptoBulkEntry x + uptoBulkEntries r
def uptoBulkEntry {H : Type} : Lit × DataW H → Nat
  | (.string bytes, d) => bytes.length + uptoBulk d + 1
  | (_, d) => uptoBulk d + 1
 end
def uptoSmall : (H : Type) → List (DataW H) → Bool := fun _ ds => decide (uptoBulkAll ds ≤ 1048576)
def OpenSpec.upto (s : _root_.Go.ChangeSpec) : _root_.Go.OpenSpec := { _root_.Go.OpenSpec.ofChange s with cond := some uptoSmall }

/-- 'haruspexlaw15.TraceRun', WHERE WHAT IT READS IS OF BULK AT MOST 1048576: true; the input reads as it did. -/
def traceRunUptoRow : OpenClaim := { program := "ytibgakbkdonjcaagreatdoor", sum := "4bc401410ba1c509a164bbe367183d576b437c37436dbdeaa5ee484aee91f879", func := "haruspex/haruspexlaw15.TraceRun", spec := "traceRun", inPlace := ["internal/reflectlite.ValueOf", "(internal/reflectlite.Value).Type", "(internal/reflectlite.Value).IsNil", "internal/reflectlite.TypeOf", "(internal/reflectlite.Value).Elem", "(internal/reflectlite.Value).Set"], unfollowed := true, recurses := true, named := ["errors.errorType"], plainKeys := false, apart := false, laid := [("errors.errorType", laid_errors_errorType)], narrowed := true }
def TraceRunUptoSaid : Prop := traceRunUptoRow.holds Tryz.pinned (OpenSpec.upto traceRunSpec)

/-- 'haruspexlaw15.TraceMore', WHERE WHAT IT READS IS OF BULK AT MOST 1048576: true; the input reads as it did. -/
def traceMoreUptoRow : OpenClaim := { program := "ytibgakbkdonjcaagreatdoor", sum := "4bc401410ba1c509a164bbe367183d576b437c37436dbdeaa5ee484aee91f879", func := "haruspex/haruspexlaw15.TraceMore", spec := "traceMore", inPlace := ["internal/reflectlite.ValueOf", "(internal/reflectlite.Value).Type", "(internal/reflectlite.Value).IsNil", "internal/reflectlite.TypeOf", "(internal/reflectlite.Value).Elem", "(internal/reflectlite.Value).Set"], unfollowed := true, recurses := true, named := ["errors.errorType"], plainKeys := false, apart := false, laid := [("errors.errorType", laid_errors_errorType)], narrowed := true }
def TraceMoreUptoSaid : Prop := traceMoreUptoRow.holds Tryz.pinned (OpenSpec.upto traceMoreSpec)

/-- 'haruspexlaw15.TraceTwins', WHERE WHAT IT READS IS OF BULK AT MOST 1048576: true; the input reads as it did. -/
def traceTwinsUptoRow : OpenClaim := { program := "ytibgakbkdonjcaagreatdoor", sum := "4bc401410ba1c509a164bbe367183d576b437c37436dbdeaa5ee484aee91f879", func := "haruspex/haruspexlaw15.TraceTwins", spec := "traceTwins", inPlace := ["internal/reflectlite.ValueOf", "(internal/reflectlite.Value).Type", "(internal/reflectlite.Value).IsNil", "internal/reflectlite.TypeOf", "(internal/reflectlite.Value).Elem", "(internal/reflectlite.Value).Set"], unfollowed := true, recurses := true, named := ["errors.errorType"], plainKeys := false, apart := false, laid := [("errors.errorType", laid_errors_errorType)], narrowed := true }
def TraceTwinsUptoSaid : Prop := traceTwinsUptoRow.holds Tryz.pinned (OpenSpec.upto traceTwinsSpec)

/-- 'haruspexlaw15.TraceTold', WHERE WHAT IT READS IS OF BULK AT MOST 1048576: true; the input reads as it did. -/
def traceToldUptoRow : OpenClaim := { program := "ytibgakbkdonjcaagreatdoor", sum := "4bc401410ba1c509a164bbe367183d576b437c37436dbdeaa5ee484aee91f879", func := "haruspex/haruspexlaw15.TraceTold", spec := "traceTold", inPlace := ["internal/reflectlite.ValueOf", "(internal/reflectlite.Value).Type", "(internal/reflectlite.Value).IsNil", "internal/reflectlite.TypeOf", "(internal/reflectlite.Value).Elem", "(internal/reflectlite.Value).Set"], unfollowed := true, recurses := true, named := ["errors.errorType"], plainKeys := false, apart := false, laid := [("errors.errorType", laid_errors_errorType)], narrowed := true }
def TraceToldUptoSaid : Prop := traceToldUptoRow.holds Tryz.pinned (OpenSpec.upto traceToldSpec)

/-- 'haruspexlaw15.TraceFuel', WHERE WHAT IT READS IS OF BULK AT MOST 1048576: true; the input reads as it did. -/
def traceFuelUptoRow : OpenClaim := { program := "ytibgakbkdonjcaagreatdoor", sum := "4bc401410ba1c509a164bbe367183d576b437c37436dbdeaa5ee484aee91f879", func := "haruspex/haruspexlaw15.TraceFuel", spec := "traceFuel", inPlace := ["internal/reflectlite.ValueOf", "(internal/reflectlite.Value).Type", "(internal/reflectlite.Value).IsNil", "internal/reflectlite.TypeOf", "(internal/reflectlite.Value).Elem", "(internal/reflectlite.Value).Set"], unfollowed := true, recurses := true, named := ["errors.errorType"], plainKeys := false, apart := false, laid := [("errors.errorType", laid_errors_errorType)], narrowed := true }
def TraceFuelUptoSaid : Prop := traceFuelUptoRow.holds Tryz.pinned (OpenSpec.upto traceFuelSpec)

end Rows
end Go.Proofs.YtibgakbkdonjcaaGreatDoor
