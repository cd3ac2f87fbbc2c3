/- TopNilField gives true. -/
import Derived.Test.YteajpblmbmncdaaGreatDoorLTopNilField0
import Derived.Test.YteajpblmbmncdaaGreatDoorLTopNilField1
namespace Go.Proofs.YteajpblmbmncdaaGreatDoor
open Go Go.RowKit Ev
set_option maxRecDepth 100000
set_option linter.unusedVariables false
theorem topNilField_true (w : World) (hT : Tab w) (v0 : Bool) : Calls Tryz.prog 7 #[.bool v0] w fun e w' => Below w.heap.size w w' ∧ e = .returned (.bool true) := by
  cases v0
  · exact lawT (TopNilField_f) (by exact ⟨rfl, trivial⟩) w hT
  · exact lawT (TopNilField_t) (by exact ⟨rfl, trivial⟩) w hT
end Go.Proofs.YteajpblmbmncdaaGreatDoor
