/- TopNilReturn gives true. -/
import Derived.Test.YteajpblmbmncdaaGreatDoorLTopNilReturn0
import Derived.Test.YteajpblmbmncdaaGreatDoorLTopNilReturn1
import Derived.Test.YteajpblmbmncdaaGreatDoorLTopNilReturn2
import Derived.Test.YteajpblmbmncdaaGreatDoorLTopNilReturn3
import Derived.Test.YteajpblmbmncdaaGreatDoorLTopNilReturn4
import Derived.Test.YteajpblmbmncdaaGreatDoorLTopNilReturn5
import Derived.Test.YteajpblmbmncdaaGreatDoorLTopNilReturn6
import Derived.Test.YteajpblmbmncdaaGreatDoorLTopNilReturn7
import Derived.Test.YteajpblmbmncdaaGreatDoorLTopNilReturn8
import Derived.Test.YteajpblmbmncdaaGreatDoorLTopNilReturn9
import Derived.Test.YteajpblmbmncdaaGreatDoorLTopNilReturn10
import Derived.Test.YteajpblmbmncdaaGreatDoorLTopNilReturn11
import Derived.Test.YteajpblmbmncdaaGreatDoorLTopNilReturn12
import Derived.Test.YteajpblmbmncdaaGreatDoorLTopNilReturn13
import Derived.Test.YteajpblmbmncdaaGreatDoorLTopNilReturn14
import Derived.Test.YteajpblmbmncdaaGreatDoorLTopNilReturn15
namespace Go.Proofs.YteajpblmbmncdaaGreatDoor
open Go Go.RowKit Ev
set_option maxRecDepth 100000
set_option linter.unusedVariables false
theorem topNilReturn_true (w : World) (hT : Tab w) (v0 : Int) (v1 : Bool) : Calls Tryz.prog 13 #[.int .i64 v0, .bool v1] w fun e w' => Below w.heap.size w w' ∧ e = .returned (.bool true) := by
  have hm0 := md_of v0 8
  have hr0 := md_lt v0 8 (by decide)
  generalize (v0.tmod ((8 : Nat) : Int)).natAbs = r0 at hm0 hr0
  rcases (by omega : r0 = 0 ∨ r0 = 1 ∨ r0 = 2 ∨ r0 = 3 ∨ r0 = 4 ∨ r0 = 5 ∨ r0 = 6 ∨ r0 = 7) with rfl | rfl | rfl | rfl | rfl | rfl | rfl | rfl
  · cases v1
    · exact TopNilReturn_0_f_law (by exact ⟨hm0, rfl, trivial⟩) w hT
    · exact TopNilReturn_0_t_law (by exact ⟨hm0, rfl, trivial⟩) w hT
  · cases v1
    · exact TopNilReturn_1_f_law (by exact ⟨hm0, rfl, trivial⟩) w hT
    · exact TopNilReturn_1_t_law (by exact ⟨hm0, rfl, trivial⟩) w hT
  · cases v1
    · exact TopNilReturn_2_f_law (by exact ⟨hm0, rfl, trivial⟩) w hT
    · exact TopNilReturn_2_t_law (by exact ⟨hm0, rfl, trivial⟩) w hT
  · cases v1
    · exact TopNilReturn_3_f_law (by exact ⟨hm0, rfl, trivial⟩) w hT
    · exact TopNilReturn_3_t_law (by exact ⟨hm0, rfl, trivial⟩) w hT
  · cases v1
    · exact TopNilReturn_4_f_law (by exact ⟨hm0, rfl, trivial⟩) w hT
    · exact TopNilReturn_4_t_law (by exact ⟨hm0, rfl, trivial⟩) w hT
  · cases v1
    · exact TopNilReturn_5_f_law (by exact ⟨hm0, rfl, trivial⟩) w hT
    · exact TopNilReturn_5_t_law (by exact ⟨hm0, rfl, trivial⟩) w hT
  · cases v1
    · exact TopNilReturn_6_f_law (by exact ⟨hm0, rfl, trivial⟩) w hT
    · exact TopNilReturn_6_t_law (by exact ⟨hm0, rfl, trivial⟩) w hT
  · cases v1
    · exact TopNilReturn_7_f_law (by exact ⟨hm0, rfl, trivial⟩) w hT
    · exact TopNilReturn_7_t_law (by exact ⟨hm0, rfl, trivial⟩) w hT
end Go.Proofs.YteajpblmbmncdaaGreatDoor
