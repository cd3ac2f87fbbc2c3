/- TopTaintField gives true. -/
import Derived.Test.YteajpblmbmncdaaGreatDoorLTopTaintField0
import Derived.Test.YteajpblmbmncdaaGreatDoorLTopTaintField1
namespace Go.Proofs.YteajpblmbmncdaaGreatDoor
open Go Go.RowKit Ev
set_option maxRecDepth 100000
set_option linter.unusedVariables false
theorem topTaintField_true (w : World) (hT : Tab w) (v0 : Int) (v1 : Int) : Calls Tryz.prog 3 #[.int .i64 v0, .int .i64 v1] w fun e w' => Below w.heap.size w w' ∧ e = .returned (.bool true) := by
  have hm0 := md_of v0 2
  have hr0 := md_lt v0 2 (by decide)
  generalize (v0.tmod ((2 : Nat) : Int)).natAbs = r0 at hm0 hr0
  rcases (by omega : r0 = 0 ∨ r0 = 1) with rfl | rfl
  · exact lawT (TopTaintField_0_x v1) (by exact ⟨hm0, rfl, trivial⟩) w hT
  · exact lawT (TopTaintField_1_x v1) (by exact ⟨hm0, rfl, trivial⟩) w hT
end Go.Proofs.YteajpblmbmncdaaGreatDoor
