/- SolveDeep: cases, by the kernel. -/
import Derived.Test.YtjjfahgdmaikpaaGreatDoorLb18
namespace Go.Proofs.YtjjfahgdmaikpaaGreatDoor
open Go Go.RowKit Ev
set_option maxRecDepth 100000
set_option linter.unusedVariables false
theorem SolveDeep_z6 : isBool true (runW hk18 5 [ai (Int.ofNat 6)] s0) = true := by kernel_rfl
end Go.Proofs.YtjjfahgdmaikpaaGreatDoor
