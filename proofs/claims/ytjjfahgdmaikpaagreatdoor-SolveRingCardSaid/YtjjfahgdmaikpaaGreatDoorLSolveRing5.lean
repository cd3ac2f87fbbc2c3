/- SolveRing: cases, by the kernel. -/
import Derived.Test.YtjjfahgdmaikpaaGreatDoorLb18
namespace Go.Proofs.YtjjfahgdmaikpaaGreatDoor
open Go Go.RowKit Ev
set_option maxRecDepth 100000
set_option linter.unusedVariables false
theorem SolveRing_z12_9 : isBool true (runW hk18 7 [ai (Int.ofNat 12), ai (Int.ofNat 9)] s0) = true := by kernel_rfl
theorem SolveRing_z11_7 : isBool true (runW hk18 7 [ai (Int.ofNat 11), ai (Int.ofNat 7)] s0) = true := by kernel_rfl
theorem SolveRing_z10_6 : isBool true (runW hk18 7 [ai (Int.ofNat 10), ai (Int.ofNat 6)] s0) = true := by kernel_rfl
theorem SolveRing_z8_5 : isBool true (runW hk18 7 [ai (Int.ofNat 8), ai (Int.ofNat 5)] s0) = true := by kernel_rfl
theorem SolveRing_z11_2 : isBool true (runW hk18 7 [ai (Int.ofNat 11), ai (Int.ofNat 2)] s0) = true := by kernel_rfl
theorem SolveRing_z10_1 : isBool true (runW hk18 7 [ai (Int.ofNat 10), ai (Int.ofNat 1)] s0) = true := by kernel_rfl
theorem SolveRing_z7_2 : isBool true (runW hk18 7 [ai (Int.ofNat 7), ai (Int.ofNat 2)] s0) = true := by kernel_rfl
theorem SolveRing_z5_1 : isBool true (runW hk18 7 [ai (Int.ofNat 5), ai (Int.ofNat 1)] s0) = true := by kernel_rfl
theorem SolveRing_z5_0 : isBool true (runW hk18 7 [ai (Int.ofNat 5), ai (Int.ofNat 0)] s0) = true := by kernel_rfl
end Go.Proofs.YtjjfahgdmaikpaaGreatDoor
