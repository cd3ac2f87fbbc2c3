/- SolveDeep: cases, by the kernel. -/
import Derived.Test.YtjjfahgdmaikpaaGreatDoorLb18
namespace Go.Proofs.YtjjfahgdmaikpaaGreatDoor
open Go Go.RowKit Ev
set_option maxRecDepth 100000
set_option linter.unusedVariables false
theorem SolveDeep_neg (k : Nat) : isBool true (runW hk18 5 [ai (Int.negSucc k)] s0) = true := by kernel_rfl
theorem SolveDeep_big (k : Nat) : isBool true (runW hk18 5 [ai (Int.ofNat (k + 7))] s0) = true := by kernel_rfl
theorem SolveDeep_z0 : isBool true (runW hk18 5 [ai (Int.ofNat 0)] s0) = true := by kernel_rfl
theorem SolveDeep_z1 : isBool true (runW hk18 5 [ai (Int.ofNat 1)] s0) = true := by kernel_rfl
theorem SolveDeep_z2 : isBool true (runW hk18 5 [ai (Int.ofNat 2)] s0) = true := by kernel_rfl
theorem SolveDeep_z3 : isBool true (runW hk18 5 [ai (Int.ofNat 3)] s0) = true := by kernel_rfl
end Go.Proofs.YtjjfahgdmaikpaaGreatDoor
