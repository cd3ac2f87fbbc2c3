/- SolveDeep: cases, by the kernel. -/
import Derived.Test.YtjjfahgdmaikpaaGreatDoorLb18
namespace Go.Proofs.YtjjfahgdmaikpaaGreatDoor
open Go Go.RowKit Ev
set_option maxRecDepth 100000
set_option linter.unusedVariables false
theorem SolveDeep_z4 : isBool true (runW hk18 5 [ai (Int.ofNat 4)] s0) = true := by kernel_rfl
theorem SolveDeep_z5 : isBool true (runW hk18 5 [ai (Int.ofNat 5)] s0) = true := by kernel_rfl
end Go.Proofs.YtjjfahgdmaikpaaGreatDoor
