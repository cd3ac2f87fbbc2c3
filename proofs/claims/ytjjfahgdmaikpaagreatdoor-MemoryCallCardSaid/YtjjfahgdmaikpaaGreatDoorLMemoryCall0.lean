/- MemoryCall: cases, by the kernel. -/
import Derived.Test.YtjjfahgdmaikpaaGreatDoorLb22
namespace Go.Proofs.YtjjfahgdmaikpaaGreatDoor
open Go Go.RowKit Ev
set_option maxRecDepth 100000
set_option linter.unusedVariables false
theorem MemoryCall_true_neg (j : Nat) : isBool true (runW hk22 11 [ab true, ai (Int.negSucc j)] s0) = true := by kernel_rfl
theorem MemoryCall_true_big (j : Nat) : isBool true (runW hk22 11 [ab true, ai (Int.ofNat (j + 2))] s0) = true := by kernel_rfl
theorem MemoryCall_true_0 : isBool true (runW hk22 11 [ab true, ai (Int.ofNat 0)] s0) = true := by kernel_rfl
theorem MemoryCall_true_1 : isBool true (runW hk22 11 [ab true, ai (Int.ofNat 1)] s0) = true := by kernel_rfl
theorem MemoryCall_false_neg (j : Nat) : isBool true (runW hk22 11 [ab false, ai (Int.negSucc j)] s0) = true := by kernel_rfl
theorem MemoryCall_false_big (j : Nat) : isBool true (runW hk22 11 [ab false, ai (Int.ofNat (j + 2))] s0) = true := by kernel_rfl
theorem MemoryCall_false_0 : isBool true (runW hk22 11 [ab false, ai (Int.ofNat 0)] s0) = true := by kernel_rfl
theorem MemoryCall_false_1 : isBool true (runW hk22 11 [ab false, ai (Int.ofNat 1)] s0) = true := by kernel_rfl
end Go.Proofs.YtjjfahgdmaikpaaGreatDoor
