/- SolveRing: cases, by the kernel. -/
import Derived.Test.YtjjfahgdmaikpaaGreatDoorLb18
namespace Go.Proofs.YtjjfahgdmaikpaaGreatDoor
open Go Go.RowKit Ev
set_option maxRecDepth 100000
set_option linter.unusedVariables false
theorem SolveRing_z11_9 : isBool true (runW hk18 7 [ai (Int.ofNat 11), ai (Int.ofNat 9)] s0) = true := by kernel_rfl
theorem SolveRing_z12_7 : isBool true (runW hk18 7 [ai (Int.ofNat 12), ai (Int.ofNat 7)] s0) = true := by kernel_rfl
theorem SolveRing_z8_7 : isBool true (runW hk18 7 [ai (Int.ofNat 8), ai (Int.ofNat 7)] s0) = true := by kernel_rfl
theorem SolveRing_z12_3 : isBool true (runW hk18 7 [ai (Int.ofNat 12), ai (Int.ofNat 3)] s0) = true := by kernel_rfl
theorem SolveRing_z7_4 : isBool true (runW hk18 7 [ai (Int.ofNat 7), ai (Int.ofNat 4)] s0) = true := by kernel_rfl
theorem SolveRing_z6_4 : isBool true (runW hk18 7 [ai (Int.ofNat 6), ai (Int.ofNat 4)] s0) = true := by kernel_rfl
theorem SolveRing_z8_1 : isBool true (runW hk18 7 [ai (Int.ofNat 8), ai (Int.ofNat 1)] s0) = true := by kernel_rfl
theorem SolveRing_z3_3 : isBool true (runW hk18 7 [ai (Int.ofNat 3), ai (Int.ofNat 3)] s0) = true := by kernel_rfl
theorem SolveRing_z2_0 : isBool true (runW hk18 7 [ai (Int.ofNat 2), ai (Int.ofNat 0)] s0) = true := by kernel_rfl
end Go.Proofs.YtjjfahgdmaikpaaGreatDoor
