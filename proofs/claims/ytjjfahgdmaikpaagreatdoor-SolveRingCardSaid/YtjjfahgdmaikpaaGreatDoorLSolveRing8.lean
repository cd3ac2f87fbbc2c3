/- SolveRing: cases, by the kernel. -/
import Derived.Test.YtjjfahgdmaikpaaGreatDoorLb18
namespace Go.Proofs.YtjjfahgdmaikpaaGreatDoor
open Go Go.RowKit Ev
set_option maxRecDepth 100000
set_option linter.unusedVariables false
theorem SolveRing_z12_8 : isBool true (runW hk18 7 [ai (Int.ofNat 12), ai (Int.ofNat 8)] s0) = true := by kernel_rfl
theorem SolveRing_z9_9 : isBool true (runW hk18 7 [ai (Int.ofNat 9), ai (Int.ofNat 9)] s0) = true := by kernel_rfl
theorem SolveRing_z9_7 : isBool true (runW hk18 7 [ai (Int.ofNat 9), ai (Int.ofNat 7)] s0) = true := by kernel_rfl
theorem SolveRing_z9_4 : isBool true (runW hk18 7 [ai (Int.ofNat 9), ai (Int.ofNat 4)] s0) = true := by kernel_rfl
theorem SolveRing_z7_5 : isBool true (runW hk18 7 [ai (Int.ofNat 7), ai (Int.ofNat 5)] s0) = true := by kernel_rfl
theorem SolveRing_z11_0 : isBool true (runW hk18 7 [ai (Int.ofNat 11), ai (Int.ofNat 0)] s0) = true := by kernel_rfl
theorem SolveRing_z6_3 : isBool true (runW hk18 7 [ai (Int.ofNat 6), ai (Int.ofNat 3)] s0) = true := by kernel_rfl
theorem SolveRing_z6_0 : isBool true (runW hk18 7 [ai (Int.ofNat 6), ai (Int.ofNat 0)] s0) = true := by kernel_rfl
theorem SolveRing_z4_1 : isBool true (runW hk18 7 [ai (Int.ofNat 4), ai (Int.ofNat 1)] s0) = true := by kernel_rfl
end Go.Proofs.YtjjfahgdmaikpaaGreatDoor
