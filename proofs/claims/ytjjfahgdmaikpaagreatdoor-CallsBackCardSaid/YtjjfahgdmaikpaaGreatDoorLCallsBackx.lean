/- CallsBack: outside its bounds. -/
import Derived.Test.YtjjfahgdmaikpaaGreatDoorLm19
namespace Go.Proofs.YtjjfahgdmaikpaaGreatDoor
open Go Go.RowKit Ev
set_option maxRecDepth 100000
set_option linter.unusedVariables false
theorem CallsBack_neg (k : Nat) : isBool true (runW hkT 9 [ai (Int.negSucc k)] s0) = true := by kernel_rfl
theorem CallsBack_nul : isBool true (runW hkT 9 [ai (Int.ofNat 0)] s0) = true := by kernel_rfl
theorem CallsBack_big (k : Nat) : isBool true (runW hkT 9 [ai (Int.ofNat (k + 21))] s0) = true := by kernel_rfl
end Go.Proofs.YtjjfahgdmaikpaaGreatDoor
