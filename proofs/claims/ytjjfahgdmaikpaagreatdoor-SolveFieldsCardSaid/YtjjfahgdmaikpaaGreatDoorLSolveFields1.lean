/- SolveFields: cases, by the kernel. -/
import Derived.Test.YtjjfahgdmaikpaaGreatDoorLb18
namespace Go.Proofs.YtjjfahgdmaikpaaGreatDoor
open Go Go.RowKit Ev
set_option maxRecDepth 100000
set_option linter.unusedVariables false
theorem SolveFields_z4_0 : isBool true (runW hk18 4 [ai (Int.ofNat 4), ai (Int.ofNat 0)] s0) = true := by kernel_rfl
theorem SolveFields_z4_1 : isBool true (runW hk18 4 [ai (Int.ofNat 4), ai (Int.ofNat 1)] s0) = true := by kernel_rfl
theorem SolveFields_z4_2 : isBool true (runW hk18 4 [ai (Int.ofNat 4), ai (Int.ofNat 2)] s0) = true := by kernel_rfl
theorem SolveFields_z4_3 : isBool true (runW hk18 4 [ai (Int.ofNat 4), ai (Int.ofNat 3)] s0) = true := by kernel_rfl
end Go.Proofs.YtjjfahgdmaikpaaGreatDoor
