/- SolveRing: cases, by the kernel. -/
import Derived.Test.YtjjfahgdmaikpaaGreatDoorLb18
namespace Go.Proofs.YtjjfahgdmaikpaaGreatDoor
open Go Go.RowKit Ev
set_option maxRecDepth 100000
set_option linter.unusedVariables false
theorem SolveRing_z10_9 : isBool true (runW hk18 7 [ai (Int.ofNat 10), ai (Int.ofNat 9)] s0) = true := by kernel_rfl
theorem SolveRing_z11_8 : isBool true (runW hk18 7 [ai (Int.ofNat 11), ai (Int.ofNat 8)] s0) = true := by kernel_rfl
theorem SolveRing_z12_5 : isBool true (runW hk18 7 [ai (Int.ofNat 12), ai (Int.ofNat 5)] s0) = true := by kernel_rfl
theorem SolveRing_z11_3 : isBool true (runW hk18 7 [ai (Int.ofNat 11), ai (Int.ofNat 3)] s0) = true := by kernel_rfl
theorem SolveRing_z8_4 : isBool true (runW hk18 7 [ai (Int.ofNat 8), ai (Int.ofNat 4)] s0) = true := by kernel_rfl
theorem SolveRing_z5_4 : isBool true (runW hk18 7 [ai (Int.ofNat 5), ai (Int.ofNat 4)] s0) = true := by kernel_rfl
theorem SolveRing_z9_1 : isBool true (runW hk18 7 [ai (Int.ofNat 9), ai (Int.ofNat 1)] s0) = true := by kernel_rfl
theorem SolveRing_z3_2 : isBool true (runW hk18 7 [ai (Int.ofNat 3), ai (Int.ofNat 2)] s0) = true := by kernel_rfl
theorem SolveRing_z2_2 : isBool true (runW hk18 7 [ai (Int.ofNat 2), ai (Int.ofNat 2)] s0) = true := by kernel_rfl
end Go.Proofs.YtjjfahgdmaikpaaGreatDoor
