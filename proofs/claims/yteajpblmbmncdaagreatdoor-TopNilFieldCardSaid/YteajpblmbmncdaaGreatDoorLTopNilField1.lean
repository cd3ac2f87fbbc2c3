/- TopNilField: cases, by the kernel. -/
import Derived.Test.YteajpblmbmncdaaGreatDoorLt
namespace Go.Proofs.YteajpblmbmncdaaGreatDoor
open Go Go.RowKit Ev
set_option maxRecDepth 100000
set_option linter.unusedVariables false
theorem TopNilField_f : isBool true (runW hkT 7 [ab false] s0) = true := by kernel_rfl
end Go.Proofs.YteajpblmbmncdaaGreatDoor
