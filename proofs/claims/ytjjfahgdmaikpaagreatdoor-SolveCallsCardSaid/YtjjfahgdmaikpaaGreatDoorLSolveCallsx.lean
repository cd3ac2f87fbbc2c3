/- SolveCalls: outside its bounds. -/
import Derived.Test.YtjjfahgdmaikpaaGreatDoorLm1
namespace Go.Proofs.YtjjfahgdmaikpaaGreatDoor
open Go Go.RowKit Ev
set_option maxRecDepth 100000
set_option linter.unusedVariables false
theorem SolveCalls_neg (k : Nat) : isBool true (runW hkT 6 [ai (Int.negSucc k)] s0) = true := by kernel_rfl
theorem SolveCalls_nul : isBool true (runW hkT 6 [ai (Int.ofNat 0)] s0) = true := by kernel_rfl
theorem SolveCalls_big (k : Nat) : isBool true (runW hkT 6 [ai (Int.ofNat (k + 7))] s0) = true := by kernel_rfl
end Go.Proofs.YtjjfahgdmaikpaaGreatDoor
