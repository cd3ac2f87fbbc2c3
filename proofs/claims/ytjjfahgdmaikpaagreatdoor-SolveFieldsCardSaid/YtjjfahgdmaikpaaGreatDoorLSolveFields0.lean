/- SolveFields: cases, by the kernel. -/
import Derived.Test.YtjjfahgdmaikpaaGreatDoorLb18
namespace Go.Proofs.YtjjfahgdmaikpaaGreatDoor
open Go Go.RowKit Ev
set_option maxRecDepth 100000
set_option linter.unusedVariables false
theorem SolveFields_neg (k : Nat) (m : Int) : isBool true (runW hk18 4 [ai (Int.negSucc k), ai m] s0) = true := by kernel_rfl
theorem SolveFields_z0 (m : Int) : isBool true (runW hk18 4 [ai (Int.ofNat 0), ai m] s0) = true := by kernel_rfl
theorem SolveFields_big (k : Nat) (m : Int) : isBool true (runW hk18 4 [ai (Int.ofNat (k + 5)), ai m] s0) = true := by kernel_rfl
theorem SolveFields_z1_neg (j : Nat) : isBool true (runW hk18 4 [ai (Int.ofNat 1), ai (Int.negSucc j)] s0) = true := by kernel_rfl
theorem SolveFields_z1_big (j : Nat) : isBool true (runW hk18 4 [ai (Int.ofNat 1), ai (Int.ofNat (j + 1))] s0) = true := by kernel_rfl
theorem SolveFields_z2_neg (j : Nat) : isBool true (runW hk18 4 [ai (Int.ofNat 2), ai (Int.negSucc j)] s0) = true := by kernel_rfl
theorem SolveFields_z2_big (j : Nat) : isBool true (runW hk18 4 [ai (Int.ofNat 2), ai (Int.ofNat (j + 2))] s0) = true := by kernel_rfl
theorem SolveFields_z3_neg (j : Nat) : isBool true (runW hk18 4 [ai (Int.ofNat 3), ai (Int.negSucc j)] s0) = true := by kernel_rfl
theorem SolveFields_z3_big (j : Nat) : isBool true (runW hk18 4 [ai (Int.ofNat 3), ai (Int.ofNat (j + 3))] s0) = true := by kernel_rfl
theorem SolveFields_z4_neg (j : Nat) : isBool true (runW hk18 4 [ai (Int.ofNat 4), ai (Int.negSucc j)] s0) = true := by kernel_rfl
theorem SolveFields_z4_big (j : Nat) : isBool true (runW hk18 4 [ai (Int.ofNat 4), ai (Int.ofNat (j + 4))] s0) = true := by kernel_rfl
theorem SolveFields_z1_0 : isBool true (runW hk18 4 [ai (Int.ofNat 1), ai (Int.ofNat 0)] s0) = true := by kernel_rfl
theorem SolveFields_z2_0 : isBool true (runW hk18 4 [ai (Int.ofNat 2), ai (Int.ofNat 0)] s0) = true := by kernel_rfl
theorem SolveFields_z2_1 : isBool true (runW hk18 4 [ai (Int.ofNat 2), ai (Int.ofNat 1)] s0) = true := by kernel_rfl
theorem SolveFields_z3_0 : isBool true (runW hk18 4 [ai (Int.ofNat 3), ai (Int.ofNat 0)] s0) = true := by kernel_rfl
theorem SolveFields_z3_1 : isBool true (runW hk18 4 [ai (Int.ofNat 3), ai (Int.ofNat 1)] s0) = true := by kernel_rfl
theorem SolveFields_z3_2 : isBool true (runW hk18 4 [ai (Int.ofNat 3), ai (Int.ofNat 2)] s0) = true := by kernel_rfl
end Go.Proofs.YtjjfahgdmaikpaaGreatDoor
