/- TopDeep gives true. -/
import Derived.Test.YteajpblmbmncdaaGreatDoorLTopDeep0
import Derived.Test.YteajpblmbmncdaaGreatDoorLTopDeep1
import Derived.Test.YteajpblmbmncdaaGreatDoorLTopDeep2
import Derived.Test.YteajpblmbmncdaaGreatDoorLTopDeep3
import Derived.Test.YteajpblmbmncdaaGreatDoorLTopDeep4
import Derived.Test.YteajpblmbmncdaaGreatDoorLTopDeep5
import Derived.Test.YteajpblmbmncdaaGreatDoorLTopDeep6
import Derived.Test.YteajpblmbmncdaaGreatDoorLTopDeep7
import Derived.Test.YteajpblmbmncdaaGreatDoorLTopDeep8
import Derived.Test.YteajpblmbmncdaaGreatDoorLTopDeep9
namespace Go.Proofs.YteajpblmbmncdaaGreatDoor
open Go Go.RowKit Ev
set_option maxRecDepth 100000
set_option linter.unusedVariables false
theorem topDeep_true (w : World) (hT : Tab w) (v0 : Int) (v1 : Bool) : Calls Tryz.prog 11 #[.int .i64 v0, .bool v1] w fun e w' => Below w.heap.size w w' ∧ e = .returned (.bool true) := by
  have hm0 := md_of v0 5
  have hr0 := md_lt v0 5 (by decide)
  generalize (v0.tmod ((5 : Nat) : Int)).natAbs = r0 at hm0 hr0
  rcases (by omega : r0 = 0 ∨ r0 = 1 ∨ r0 = 2 ∨ r0 = 3 ∨ r0 = 4) with rfl | rfl | rfl | rfl | rfl
  · cases v1
    · exact TopDeep_0_f_law (by exact ⟨hm0, rfl, trivial⟩) w hT
    · exact TopDeep_0_t_law (by exact ⟨hm0, rfl, trivial⟩) w hT
  · cases v1
    · exact TopDeep_1_f_law (by exact ⟨hm0, rfl, trivial⟩) w hT
    · exact TopDeep_1_t_law (by exact ⟨hm0, rfl, trivial⟩) w hT
  · cases v1
    · exact TopDeep_2_f_law (by exact ⟨hm0, rfl, trivial⟩) w hT
    · exact TopDeep_2_t_law (by exact ⟨hm0, rfl, trivial⟩) w hT
  · cases v1
    · exact TopDeep_3_f_law (by exact ⟨hm0, rfl, trivial⟩) w hT
    · exact TopDeep_3_t_law (by exact ⟨hm0, rfl, trivial⟩) w hT
  · cases v1
    · exact TopDeep_4_f_law (by exact ⟨hm0, rfl, trivial⟩) w hT
    · exact TopDeep_4_t_law (by exact ⟨hm0, rfl, trivial⟩) w hT
end Go.Proofs.YteajpblmbmncdaaGreatDoor
