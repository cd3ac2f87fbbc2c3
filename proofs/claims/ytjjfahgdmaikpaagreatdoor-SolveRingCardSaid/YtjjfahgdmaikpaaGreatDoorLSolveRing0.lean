/- SolveRing: cases, by the kernel. -/
import Derived.Test.YtjjfahgdmaikpaaGreatDoorLb18
namespace Go.Proofs.YtjjfahgdmaikpaaGreatDoor
open Go Go.RowKit Ev
set_option maxRecDepth 100000
set_option linter.unusedVariables false
theorem SolveRing_neg (k : Nat) (m : Int) : isBool true (runW hk18 7 [ai (Int.negSucc k), ai m] s0) = true := by kernel_rfl
theorem SolveRing_z0 (m : Int) : isBool true (runW hk18 7 [ai (Int.ofNat 0), ai m] s0) = true := by kernel_rfl
theorem SolveRing_big (k : Nat) (m : Int) : isBool true (runW hk18 7 [ai (Int.ofNat (k + 13)), ai m] s0) = true := by kernel_rfl
theorem SolveRing_z1_neg (j : Nat) : isBool true (runW hk18 7 [ai (Int.ofNat 1), ai (Int.negSucc j)] s0) = true := by kernel_rfl
theorem SolveRing_z1_big (j : Nat) : isBool true (runW hk18 7 [ai (Int.ofNat 1), ai (Int.ofNat (j + 2))] s0) = true := by kernel_rfl
theorem SolveRing_z2_neg (j : Nat) : isBool true (runW hk18 7 [ai (Int.ofNat 2), ai (Int.negSucc j)] s0) = true := by kernel_rfl
theorem SolveRing_z2_big (j : Nat) : isBool true (runW hk18 7 [ai (Int.ofNat 2), ai (Int.ofNat (j + 3))] s0) = true := by kernel_rfl
theorem SolveRing_z3_neg (j : Nat) : isBool true (runW hk18 7 [ai (Int.ofNat 3), ai (Int.negSucc j)] s0) = true := by kernel_rfl
theorem SolveRing_z3_big (j : Nat) : isBool true (runW hk18 7 [ai (Int.ofNat 3), ai (Int.ofNat (j + 4))] s0) = true := by kernel_rfl
theorem SolveRing_z4_neg (j : Nat) : isBool true (runW hk18 7 [ai (Int.ofNat 4), ai (Int.negSucc j)] s0) = true := by kernel_rfl
theorem SolveRing_z4_big (j : Nat) : isBool true (runW hk18 7 [ai (Int.ofNat 4), ai (Int.ofNat (j + 5))] s0) = true := by kernel_rfl
theorem SolveRing_z5_neg (j : Nat) : isBool true (runW hk18 7 [ai (Int.ofNat 5), ai (Int.negSucc j)] s0) = true := by kernel_rfl
theorem SolveRing_z5_big (j : Nat) : isBool true (runW hk18 7 [ai (Int.ofNat 5), ai (Int.ofNat (j + 6))] s0) = true := by kernel_rfl
theorem SolveRing_z6_neg (j : Nat) : isBool true (runW hk18 7 [ai (Int.ofNat 6), ai (Int.negSucc j)] s0) = true := by kernel_rfl
theorem SolveRing_z6_big (j : Nat) : isBool true (runW hk18 7 [ai (Int.ofNat 6), ai (Int.ofNat (j + 7))] s0) = true := by kernel_rfl
theorem SolveRing_z7_neg (j : Nat) : isBool true (runW hk18 7 [ai (Int.ofNat 7), ai (Int.negSucc j)] s0) = true := by kernel_rfl
theorem SolveRing_z7_big (j : Nat) : isBool true (runW hk18 7 [ai (Int.ofNat 7), ai (Int.ofNat (j + 8))] s0) = true := by kernel_rfl
theorem SolveRing_z8_neg (j : Nat) : isBool true (runW hk18 7 [ai (Int.ofNat 8), ai (Int.negSucc j)] s0) = true := by kernel_rfl
theorem SolveRing_z8_big (j : Nat) : isBool true (runW hk18 7 [ai (Int.ofNat 8), ai (Int.ofNat (j + 9))] s0) = true := by kernel_rfl
theorem SolveRing_z9_neg (j : Nat) : isBool true (runW hk18 7 [ai (Int.ofNat 9), ai (Int.negSucc j)] s0) = true := by kernel_rfl
theorem SolveRing_z9_big (j : Nat) : isBool true (runW hk18 7 [ai (Int.ofNat 9), ai (Int.ofNat (j + 10))] s0) = true := by kernel_rfl
theorem SolveRing_z10_neg (j : Nat) : isBool true (runW hk18 7 [ai (Int.ofNat 10), ai (Int.negSucc j)] s0) = true := by kernel_rfl
theorem SolveRing_z10_big (j : Nat) : isBool true (runW hk18 7 [ai (Int.ofNat 10), ai (Int.ofNat (j + 11))] s0) = true := by kernel_rfl
theorem SolveRing_z11_neg (j : Nat) : isBool true (runW hk18 7 [ai (Int.ofNat 11), ai (Int.negSucc j)] s0) = true := by kernel_rfl
theorem SolveRing_z11_big (j : Nat) : isBool true (runW hk18 7 [ai (Int.ofNat 11), ai (Int.ofNat (j + 12))] s0) = true := by kernel_rfl
theorem SolveRing_z12_neg (j : Nat) : isBool true (runW hk18 7 [ai (Int.ofNat 12), ai (Int.negSucc j)] s0) = true := by kernel_rfl
theorem SolveRing_z12_big (j : Nat) : isBool true (runW hk18 7 [ai (Int.ofNat 12), ai (Int.ofNat (j + 13))] s0) = true := by kernel_rfl
theorem SolveRing_z12_12 : isBool true (runW hk18 7 [ai (Int.ofNat 12), ai (Int.ofNat 12)] s0) = true := by kernel_rfl
theorem SolveRing_z11_6 : isBool true (runW hk18 7 [ai (Int.ofNat 11), ai (Int.ofNat 6)] s0) = true := by kernel_rfl
theorem SolveRing_z8_6 : isBool true (runW hk18 7 [ai (Int.ofNat 8), ai (Int.ofNat 6)] s0) = true := by kernel_rfl
theorem SolveRing_z12_2 : isBool true (runW hk18 7 [ai (Int.ofNat 12), ai (Int.ofNat 2)] s0) = true := by kernel_rfl
theorem SolveRing_z12_1 : isBool true (runW hk18 7 [ai (Int.ofNat 12), ai (Int.ofNat 1)] s0) = true := by kernel_rfl
theorem SolveRing_z9_2 : isBool true (runW hk18 7 [ai (Int.ofNat 9), ai (Int.ofNat 2)] s0) = true := by kernel_rfl
theorem SolveRing_z6_2 : isBool true (runW hk18 7 [ai (Int.ofNat 6), ai (Int.ofNat 2)] s0) = true := by kernel_rfl
theorem SolveRing_z8_0 : isBool true (runW hk18 7 [ai (Int.ofNat 8), ai (Int.ofNat 0)] s0) = true := by kernel_rfl
theorem SolveRing_z2_1 : isBool true (runW hk18 7 [ai (Int.ofNat 2), ai (Int.ofNat 1)] s0) = true := by kernel_rfl
end Go.Proofs.YtjjfahgdmaikpaaGreatDoor
