/- SolveRing: cases, by the kernel. -/
import Derived.Test.YtjjfahgdmaikpaaGreatDoorLb18
namespace Go.Proofs.YtjjfahgdmaikpaaGreatDoor
open Go Go.RowKit Ev
set_option maxRecDepth 100000
set_option linter.unusedVariables false
theorem SolveRing_z12_11 : isBool true (runW hk18 7 [ai (Int.ofNat 12), ai (Int.ofNat 11)] s0) = true := by kernel_rfl
theorem SolveRing_z8_8 : isBool true (runW hk18 7 [ai (Int.ofNat 8), ai (Int.ofNat 8)] s0) = true := by kernel_rfl
theorem SolveRing_z10_5 : isBool true (runW hk18 7 [ai (Int.ofNat 10), ai (Int.ofNat 5)] s0) = true := by kernel_rfl
theorem SolveRing_z6_6 : isBool true (runW hk18 7 [ai (Int.ofNat 6), ai (Int.ofNat 6)] s0) = true := by kernel_rfl
theorem SolveRing_z10_3 : isBool true (runW hk18 7 [ai (Int.ofNat 10), ai (Int.ofNat 3)] s0) = true := by kernel_rfl
theorem SolveRing_z8_2 : isBool true (runW hk18 7 [ai (Int.ofNat 8), ai (Int.ofNat 2)] s0) = true := by kernel_rfl
theorem SolveRing_z4_4 : isBool true (runW hk18 7 [ai (Int.ofNat 4), ai (Int.ofNat 4)] s0) = true := by kernel_rfl
theorem SolveRing_z4_2 : isBool true (runW hk18 7 [ai (Int.ofNat 4), ai (Int.ofNat 2)] s0) = true := by kernel_rfl
theorem SolveRing_z4_0 : isBool true (runW hk18 7 [ai (Int.ofNat 4), ai (Int.ofNat 0)] s0) = true := by kernel_rfl
end Go.Proofs.YtjjfahgdmaikpaaGreatDoor
