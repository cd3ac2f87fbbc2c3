/- TopControl: cases, by the kernel. -/
import Derived.Test.YteajpblmbmncdaaGreatDoorLt
namespace Go.Proofs.YteajpblmbmncdaaGreatDoor
open Go Go.RowKit Ev
set_option maxRecDepth 100000
set_option linter.unusedVariables false
theorem TopControl_nul : isBool true (runW hkT 14 [ai (Int.ofNat 0)] s0) = true := by kernel_rfl
end Go.Proofs.YteajpblmbmncdaaGreatDoor
