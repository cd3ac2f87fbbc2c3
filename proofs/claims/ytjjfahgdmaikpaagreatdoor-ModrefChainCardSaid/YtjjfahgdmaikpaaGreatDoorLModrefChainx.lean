/- ModrefChain: outside its bounds. -/
import Derived.Test.YtjjfahgdmaikpaaGreatDoorLn20
namespace Go.Proofs.YtjjfahgdmaikpaaGreatDoor
open Go Go.RowKit Ev
set_option maxRecDepth 100000
set_option linter.unusedVariables false
theorem ModrefChain_negt (k : Nat) : isBool true (runW hkT 8 [ai (Int.negSucc k), ab true] s0) = true := by kernel_rfl
theorem ModrefChain_nult : isBool true (runW hkT 8 [ai (Int.ofNat 0), ab true] s0) = true := by kernel_rfl
theorem ModrefChain_bigt (k : Nat) : isBool true (runW hkT 8 [ai (Int.ofNat (k + 11)), ab true] s0) = true := by kernel_rfl
theorem ModrefChain_negf (k : Nat) : isBool true (runW hkT 8 [ai (Int.negSucc k), ab false] s0) = true := by kernel_rfl
theorem ModrefChain_nulf : isBool true (runW hkT 8 [ai (Int.ofNat 0), ab false] s0) = true := by kernel_rfl
theorem ModrefChain_bigf (k : Nat) : isBool true (runW hkT 8 [ai (Int.ofNat (k + 11)), ab false] s0) = true := by kernel_rfl
end Go.Proofs.YtjjfahgdmaikpaaGreatDoor
