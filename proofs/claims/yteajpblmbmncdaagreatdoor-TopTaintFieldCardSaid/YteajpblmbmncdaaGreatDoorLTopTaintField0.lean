/- TopTaintField: cases, by the kernel. -/
import Derived.Test.YteajpblmbmncdaaGreatDoorLt
namespace Go.Proofs.YteajpblmbmncdaaGreatDoor
open Go Go.RowKit Ev
set_option maxRecDepth 100000
set_option linter.unusedVariables false
theorem TopTaintField_0_x (n1 : Int) : isBool true (runW hkT 3 [mi 2 0, ai n1] s0) = true := by kernel_rfl
end Go.Proofs.YteajpblmbmncdaaGreatDoor
