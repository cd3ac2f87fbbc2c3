/- FlowNone gives true. -/
import Derived.Test.YtjjfahgdmaikpaaGreatDoorLb23
namespace Go.Proofs.YtjjfahgdmaikpaaGreatDoor
open Go Go.RowKit Ev
set_option maxRecDepth 100000
set_option linter.unusedVariables false
theorem flowNone_ev : isBool true (runW hk23 13 [] s0) = true := by kernel_rfl
theorem flowNone_true (w : World) (hT : Tab w) : Calls Tryz.prog 13 #[] w fun e w' => Below w.heap.size w w' ∧ e = .returned (.bool true) :=
  law23 flowNone_ev (by exact trivial) w hT
end Go.Proofs.YtjjfahgdmaikpaaGreatDoor
