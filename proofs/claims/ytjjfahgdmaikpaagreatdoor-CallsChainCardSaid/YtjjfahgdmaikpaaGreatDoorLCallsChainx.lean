/- CallsChain: outside its bounds. -/
import Derived.Test.YtjjfahgdmaikpaaGreatDoorLn19
namespace Go.Proofs.YtjjfahgdmaikpaaGreatDoor
open Go Go.RowKit Ev
set_option maxRecDepth 100000
set_option linter.unusedVariables false
theorem CallsChain_negt (k : Nat) : isBool true (runW hkT 10 [ai (Int.negSucc k), ab true] s0) = true := by kernel_rfl
theorem CallsChain_nult : isBool true (runW hkT 10 [ai (Int.ofNat 0), ab true] s0) = true := by kernel_rfl
theorem CallsChain_bigt (k : Nat) : isBool true (runW hkT 10 [ai (Int.ofNat (k + 12)), ab true] s0) = true := by kernel_rfl
theorem CallsChain_negf (k : Nat) : isBool true (runW hkT 10 [ai (Int.negSucc k), ab false] s0) = true := by kernel_rfl
theorem CallsChain_nulf : isBool true (runW hkT 10 [ai (Int.ofNat 0), ab false] s0) = true := by kernel_rfl
theorem CallsChain_bigf (k : Nat) : isBool true (runW hkT 10 [ai (Int.ofNat (k + 12)), ab false] s0) = true := by kernel_rfl
end Go.Proofs.YtjjfahgdmaikpaaGreatDoor
