/-
  No cell of these rows narrows 'for every input' (looked for: loops, veiled, ifaces, maps, wideKeys, modest, calm, conditions, laid).
  DERIVED. THE GIVEN ROWS OF THIS SEAT. 4 by the template 'for every input the law returns true; each argument reads behind the call as it read before'; 0 by the template 'total and deterministic' (their statements: YtkgjfkeaiiigfaaTotals.lean).
  GIVEN WITH THE SEED: the statements are not yours to turn. If you find one false, say at which input.
  Laid BY PROGRAM, IN A SANDBOX (cutbox-rows.mjs): the forced cells as the released guide's own fill.sh prints them over the translation f2f2828be7823e3a… (all of the seat's roots in one cut). By AI agents, Wed Nov 11 2026. No macro, syntax, notation, axiom, sorry.
-/
import Derived.Test.YtkgjfkeaiiigfaaChecked
import GoSem.Claim
import GoSem.ClaimJoined
import GoSem.ClaimMapViews
import Derived.JoinedTies
import Derived.KernelRfl
namespace Go.Proofs.Ytkgjfkeaiiigfaa
/- THE CELL 'sum', in the pinned program and in every row, IS THE sha256 OF THE DUMP (.gsa) THAT YtkgjfkeaiiigfaaProg.lean LOADS. Nothing in Lean hashes anything: it is a label: what it is worth is what the hold of that sum in a sandbox is worth. -/
noncomputable def Try.pinned : Pinned := { name := "ytkgjfkeaiiigfaa", sum := "f2f2828be7823e3a2d4af986dd3d84f57a7b390e5b102c1d1162ac9c6ea7ba8c", checked := Try.checked }
namespace Rows
def none {H : Type} : Left H := { results := [], args := [] }

/-- 'haruspexlaw3.WorkAll': WHATEVER THE INPUT: true; the input reads as it did. -/
def workAllSpec : ChangeSpec := { name := "workAll", fn := fun _ => fun
  | [d1, d2] => { results := [.lit (.bool true)], args := [d1, d2] }
  | _ => none }
def workAllRow : OpenClaim := { program := "ytkgjfkeaiiigfaa", sum := "f2f2828be7823e3a2d4af986dd3d84f57a7b390e5b102c1d1162ac9c6ea7ba8c", func := "haruspex/haruspexlaw3.WorkAll", spec := "workAll", apart := false }
def WorkAllSaid : Prop := workAllRow.holds Try.pinned (OpenSpec.ofChange workAllSpec)

/-- ITS FALSE NEIGHBOUR: 'it returns false'. Refute it at one input. -/
def workAllWrong : ChangeSpec := { name := "workAll", fn := fun _ => fun
  | [d1, d2] => { results := [.lit (.bool false)], args := [d1, d2] }
  | _ => none }
def WorkAllWrongFalsely : Prop := workAllRow.holds Try.pinned (OpenSpec.ofChange workAllWrong)

/-- 'haruspexlaw3.WorkNone': WHATEVER THE INPUT: true; the input reads as it did. -/
def workNoneSpec : ChangeSpec := { name := "workNone", fn := fun _ => fun
  | [] => { results := [.lit (.bool true)], args := [] }
  | _ => none }
def workNoneRow : OpenClaim := { program := "ytkgjfkeaiiigfaa", sum := "f2f2828be7823e3a2d4af986dd3d84f57a7b390e5b102c1d1162ac9c6ea7ba8c", func := "haruspex/haruspexlaw3.WorkNone", spec := "workNone", apart := false }
def WorkNoneSaid : Prop := workNoneRow.holds Try.pinned (OpenSpec.ofChange workNoneSpec)

/-- ITS FALSE NEIGHBOUR: 'it returns false'. Refute it at one input. -/
def workNoneWrong : ChangeSpec := { name := "workNone", fn := fun _ => fun
  | [] => { results := [.lit (.bool false)], args := [] }
  | _ => none }
def WorkNoneWrongFalsely : Prop := workNoneRow.holds Try.pinned (OpenSpec.ofChange workNoneWrong)

/-- 'haruspexlaw3.WorkTurned': WHATEVER THE INPUT: true; the input reads as it did. -/
def workTurnedSpec : ChangeSpec := { name := "workTurned", fn := fun _ => fun
  | [d1, d2] => { results := [.lit (.bool true)], args := [d1, d2] }
  | _ => none }
def workTurnedRow : OpenClaim := { program := "ytkgjfkeaiiigfaa", sum := "f2f2828be7823e3a2d4af986dd3d84f57a7b390e5b102c1d1162ac9c6ea7ba8c", func := "haruspex/haruspexlaw3.WorkTurned", spec := "workTurned", apart := false }
def WorkTurnedSaid : Prop := workTurnedRow.holds Try.pinned (OpenSpec.ofChange workTurnedSpec)

/-- ITS FALSE NEIGHBOUR: 'it returns false'. Refute it at one input. -/
def workTurnedWrong : ChangeSpec := { name := "workTurned", fn := fun _ => fun
  | [d1, d2] => { results := [.lit (.bool false)], args := [d1, d2] }
  | _ => none }
def WorkTurnedWrongFalsely : Prop := workTurnedRow.holds Try.pinned (OpenSpec.ofChange workTurnedWrong)

/-- 'haruspexlaw3.WorkFirst': WHATEVER THE INPUT: true; the input reads as it did. -/
def workFirstSpec : ChangeSpec := { name := "workFirst", fn := fun _ => fun
  | [d] => { results := [.lit (.bool true)], args := [d] }
  | _ => none }
def workFirstRow : OpenClaim := { program := "ytkgjfkeaiiigfaa", sum := "f2f2828be7823e3a2d4af986dd3d84f57a7b390e5b102c1d1162ac9c6ea7ba8c", func := "haruspex/haruspexlaw3.WorkFirst", spec := "workFirst", apart := false }
def WorkFirstSaid : Prop := workFirstRow.holds Try.pinned (OpenSpec.ofChange workFirstSpec)

/-- ITS FALSE NEIGHBOUR: 'it returns false'. Refute it at one input. -/
def workFirstWrong : ChangeSpec := { name := "workFirst", fn := fun _ => fun
  | [d] => { results := [.lit (.bool false)], args := [d] }
  | _ => none }
def WorkFirstWrongFalsely : Prop := workFirstRow.holds Try.pinned (OpenSpec.ofChange workFirstWrong)

/- THE SECOND FORM. 'bulk': how many values and letters a reading holds, each counted each time it is reached (what is shared counts as often as it is met; a slice's spare places count too). A statement '..UptoSaid' is the law's where the arguments, and the package variables that the reading takes, are together of bulk at most 1048576: NARROWER than '..Said'. Prove '..Said' where nothing that the law and all that it calls make is longer than what came in: it says more and counts as full. Else prove '..UptoSaid'. A law counts once. -/
mutual
def uptoBulk {H : Type} : DataW H → Nat
  | .lit (.string bytes) => bytes.length + 1
  | .lit _ => 1
  | .nil => 1
  | .ptr d => uptoBulk d + 1
  | .slice elems spare => uptoBulkAll elems + uptoBulkAll spare + 1
  | .agg parts => uptoBulkAll parts + 1
  | .iface _ d => uptoBulk d + 1
  | .map entries => uptoBulkEntries entries + 1
  | .held _ => 1
def uptoBulkAll {H : Type} : List (DataW H) → Nat
  | [] => 0
  | d :: r => uptoBulk d + uptoBulkAll r
def uptoBulkEntries {H : Type} : List (Lit × DataW H) → Nat
  | [] => 0
  | x :: r => uptoBulkEntry x + uptoBulkEntries r
def uptoBulkEntry {H : Type} : Lit × DataW H → Nat
  | (.string bytes, d) => bytes.length + uptoBulk d + 1
  | (_, d) => uptoBulk d + 1
 end
def uptoSmall : (H : Type) → List (DataW H) → Bool := fun _ ds => decide (uptoBulkAll ds ≤ 1048576)
def OpenSpec.upto (s : _root_.Go.ChangeSpec) : _root_.Go.OpenSpec := { _root_.Go.OpenSpec.ofChange s with cond := some uptoSmall }

/-- 'haruspexlaw3.WorkAll', WHERE WHAT IT READS IS OF BULK AT MOST 1048576: true; the input reads as it did. -/
def workAllUptoRow : OpenClaim := { program := "ytkgjfkeaiiigfaa", sum := "f2f2828be7823e3a2d4af986dd3d84f57a7b390e5b102c1d1162ac9c6ea7ba8c", func := "haruspex/haruspexlaw3.WorkAll", spec := "workAll", apart := false, narrowed := true }
def WorkAllUptoSaid : Prop := workAllUptoRow.holds Try.pinned (OpenSpec.upto workAllSpec)

/-- 'haruspexlaw3.WorkNone', WHERE WHAT IT READS IS OF BULK AT MOST 1048576: true; the input reads as it did. -/
def workNoneUptoRow : OpenClaim := { program := "ytkgjfkeaiiigfaa", sum := "f2f2828be7823e3a2d4af986dd3d84f57a7b390e5b102c1d1162ac9c6ea7ba8c", func := "haruspex/haruspexlaw3.WorkNone", spec := "workNone", apart := false, narrowed := true }
def WorkNoneUptoSaid : Prop := workNoneUptoRow.holds Try.pinned (OpenSpec.upto workNoneSpec)

/-- 'haruspexlaw3.WorkTurned', WHERE WHAT IT READS IS OF BULK AT MOST 1048576: true; the input reads as it did. -/
def workTurnedUptoRow : OpenClaim := { program := "ytkgjfkeaiiigfaa", sum := "f2f2828be7823e3a2d4af986dd3d84f57a7b390e5b102c1d1162ac9c6ea7ba8c", func := "haruspex/haruspexlaw3.WorkTurned", spec := "workTurned", apart := false, narrowed := true }
def WorkTurnedUptoSaid : Prop := workTurnedUptoRow.holds Try.pinned (OpenSpec.upto workTurnedSpec)

/-- 'haruspexlaw3.WorkFirst', WHERE WHAT IT READS IS OF BULK AT MOST 1048576: true; the input reads as it did. -/
def workFirstUptoRow : OpenClaim := { program := "ytkgjfkeaiiigfaa", sum := "f2f2828be7823e3a2d4af986dd3d84f57a7b390e5b102c1d1162ac9c6ea7ba8c", func := "haruspex/haruspexlaw3.WorkFirst", spec := "workFirst", apart := false, narrowed := true }
def WorkFirstUptoSaid : Prop := workFirstUptoRow.holds Try.pinned (OpenSpec.upto workFirstSpec)

end Rows
end Go.Proofs.Ytkgjfkeaiiigfaa
