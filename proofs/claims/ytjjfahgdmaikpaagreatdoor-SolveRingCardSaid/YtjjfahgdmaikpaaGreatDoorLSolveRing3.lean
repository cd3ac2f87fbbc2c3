/- SolveRing: cases, by the kernel. -/
import Derived.Test.YtjjfahgdmaikpaaGreatDoorLb18
namespace Go.Proofs.YtjjfahgdmaikpaaGreatDoor
open Go Go.RowKit Ev
set_option maxRecDepth 100000
set_option linter.unusedVariables false
theorem SolveRing_z12_10 : isBool true (runW hk18 7 [ai (Int.ofNat 12), ai (Int.ofNat 10)] s0) = true := by kernel_rfl
theorem SolveRing_z12_6 : isBool true (runW hk18 7 [ai (Int.ofNat 12), ai (Int.ofNat 6)] s0) = true := by kernel_rfl
theorem SolveRing_z12_4 : isBool true (runW hk18 7 [ai (Int.ofNat 12), ai (Int.ofNat 4)] s0) = true := by kernel_rfl
theorem SolveRing_z10_4 : isBool true (runW hk18 7 [ai (Int.ofNat 10), ai (Int.ofNat 4)] s0) = true := by kernel_rfl
theorem SolveRing_z9_3 : isBool true (runW hk18 7 [ai (Int.ofNat 9), ai (Int.ofNat 3)] s0) = true := by kernel_rfl
theorem SolveRing_z12_0 : isBool true (runW hk18 7 [ai (Int.ofNat 12), ai (Int.ofNat 0)] s0) = true := by kernel_rfl
theorem SolveRing_z5_3 : isBool true (runW hk18 7 [ai (Int.ofNat 5), ai (Int.ofNat 3)] s0) = true := by kernel_rfl
theorem SolveRing_z6_1 : isBool true (runW hk18 7 [ai (Int.ofNat 6), ai (Int.ofNat 1)] s0) = true := by kernel_rfl
theorem SolveRing_z3_0 : isBool true (runW hk18 7 [ai (Int.ofNat 3), ai (Int.ofNat 0)] s0) = true := by kernel_rfl
end Go.Proofs.YtjjfahgdmaikpaaGreatDoor
