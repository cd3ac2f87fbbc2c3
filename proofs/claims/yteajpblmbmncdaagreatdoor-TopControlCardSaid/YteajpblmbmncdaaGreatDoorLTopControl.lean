/- TopControl gives true. -/
import Derived.Test.YteajpblmbmncdaaGreatDoorLTopControl0
import Derived.Test.YteajpblmbmncdaaGreatDoorLTopControl1
import Derived.Test.YteajpblmbmncdaaGreatDoorLTopControl2
namespace Go.Proofs.YteajpblmbmncdaaGreatDoor
open Go Go.RowKit Ev
set_option maxRecDepth 100000
set_option linter.unusedVariables false
theorem topControl_true (w : World) (hT : Tab w) (v0 : Int) : Calls Tryz.prog 14 #[.int .i64 v0] w fun e w' => Below w.heap.size w w' ∧ e = .returned (.bool true) := by
  rcases v0 with (_ | k0) | k0
  · exact lawT (TopControl_nul) (by exact ⟨rfl, trivial⟩) w hT
  · exact lawT (TopControl_pos k0) (by exact ⟨rfl, trivial⟩) w hT
  · exact lawT (TopControl_neg k0) (by exact ⟨rfl, trivial⟩) w hT
end Go.Proofs.YteajpblmbmncdaaGreatDoor
