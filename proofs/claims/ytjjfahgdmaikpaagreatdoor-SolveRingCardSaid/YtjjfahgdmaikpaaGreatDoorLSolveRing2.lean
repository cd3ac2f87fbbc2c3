/- SolveRing: cases, by the kernel. -/
import Derived.Test.YtjjfahgdmaikpaaGreatDoorLb18
namespace Go.Proofs.YtjjfahgdmaikpaaGreatDoor
open Go Go.RowKit Ev
set_option maxRecDepth 100000
set_option linter.unusedVariables false
theorem SolveRing_z11_11 : isBool true (runW hk18 7 [ai (Int.ofNat 11), ai (Int.ofNat 11)] s0) = true := by kernel_rfl
theorem SolveRing_z10_7 : isBool true (runW hk18 7 [ai (Int.ofNat 10), ai (Int.ofNat 7)] s0) = true := by kernel_rfl
theorem SolveRing_z7_7 : isBool true (runW hk18 7 [ai (Int.ofNat 7), ai (Int.ofNat 7)] s0) = true := by kernel_rfl
theorem SolveRing_z7_6 : isBool true (runW hk18 7 [ai (Int.ofNat 7), ai (Int.ofNat 6)] s0) = true := by kernel_rfl
theorem SolveRing_z6_5 : isBool true (runW hk18 7 [ai (Int.ofNat 6), ai (Int.ofNat 5)] s0) = true := by kernel_rfl
theorem SolveRing_z7_3 : isBool true (runW hk18 7 [ai (Int.ofNat 7), ai (Int.ofNat 3)] s0) = true := by kernel_rfl
theorem SolveRing_z10_0 : isBool true (runW hk18 7 [ai (Int.ofNat 10), ai (Int.ofNat 0)] s0) = true := by kernel_rfl
theorem SolveRing_z7_0 : isBool true (runW hk18 7 [ai (Int.ofNat 7), ai (Int.ofNat 0)] s0) = true := by kernel_rfl
theorem SolveRing_z3_1 : isBool true (runW hk18 7 [ai (Int.ofNat 3), ai (Int.ofNat 1)] s0) = true := by kernel_rfl
end Go.Proofs.YtjjfahgdmaikpaaGreatDoor
