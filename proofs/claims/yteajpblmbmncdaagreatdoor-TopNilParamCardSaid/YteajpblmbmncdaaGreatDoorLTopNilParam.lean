/- TopNilParam gives true. -/
import Derived.Test.YteajpblmbmncdaaGreatDoorLTopNilParam0
import Derived.Test.YteajpblmbmncdaaGreatDoorLTopNilParam1
import Derived.Test.YteajpblmbmncdaaGreatDoorLTopNilParam2
import Derived.Test.YteajpblmbmncdaaGreatDoorLTopNilParam3
import Derived.Test.YteajpblmbmncdaaGreatDoorLTopNilParam4
import Derived.Test.YteajpblmbmncdaaGreatDoorLTopNilParam5
import Derived.Test.YteajpblmbmncdaaGreatDoorLTopNilParam6
import Derived.Test.YteajpblmbmncdaaGreatDoorLTopNilParam7
import Derived.Test.YteajpblmbmncdaaGreatDoorLTopNilParam8
import Derived.Test.YteajpblmbmncdaaGreatDoorLTopNilParam9
import Derived.Test.YteajpblmbmncdaaGreatDoorLTopNilParam10
import Derived.Test.YteajpblmbmncdaaGreatDoorLTopNilParam11
import Derived.Test.YteajpblmbmncdaaGreatDoorLTopNilParam12
import Derived.Test.YteajpblmbmncdaaGreatDoorLTopNilParam13
import Derived.Test.YteajpblmbmncdaaGreatDoorLTopNilParam14
import Derived.Test.YteajpblmbmncdaaGreatDoorLTopNilParam15
namespace Go.Proofs.YteajpblmbmncdaaGreatDoor
open Go Go.RowKit Ev
set_option maxRecDepth 100000
set_option linter.unusedVariables false
theorem topNilParam_true (w : World) (hT : Tab w) (v0 : Int) (v1 : Bool) : Calls Tryz.prog 12 #[.int .i64 v0, .bool v1] w fun e w' => Below w.heap.size w w' ∧ e = .returned (.bool true) := by
  have hm0 := md_of v0 8
  have hr0 := md_lt v0 8 (by decide)
  generalize (v0.tmod ((8 : Nat) : Int)).natAbs = r0 at hm0 hr0
  rcases (by omega : r0 = 0 ∨ r0 = 1 ∨ r0 = 2 ∨ r0 = 3 ∨ r0 = 4 ∨ r0 = 5 ∨ r0 = 6 ∨ r0 = 7) with rfl | rfl | rfl | rfl | rfl | rfl | rfl | rfl
  · cases v1
    · exact TopNilParam_0_f_law (by exact ⟨hm0, rfl, trivial⟩) w hT
    · exact TopNilParam_0_t_law (by exact ⟨hm0, rfl, trivial⟩) w hT
  · cases v1
    · exact TopNilParam_1_f_law (by exact ⟨hm0, rfl, trivial⟩) w hT
    · exact TopNilParam_1_t_law (by exact ⟨hm0, rfl, trivial⟩) w hT
  · cases v1
    · exact TopNilParam_2_f_law (by exact ⟨hm0, rfl, trivial⟩) w hT
    · exact TopNilParam_2_t_law (by exact ⟨hm0, rfl, trivial⟩) w hT
  · cases v1
    · exact TopNilParam_3_f_law (by exact ⟨hm0, rfl, trivial⟩) w hT
    · exact TopNilParam_3_t_law (by exact ⟨hm0, rfl, trivial⟩) w hT
  · cases v1
    · exact TopNilParam_4_f_law (by exact ⟨hm0, rfl, trivial⟩) w hT
    · exact TopNilParam_4_t_law (by exact ⟨hm0, rfl, trivial⟩) w hT
  · cases v1
    · exact TopNilParam_5_f_law (by exact ⟨hm0, rfl, trivial⟩) w hT
    · exact TopNilParam_5_t_law (by exact ⟨hm0, rfl, trivial⟩) w hT
  · cases v1
    · exact TopNilParam_6_f_law (by exact ⟨hm0, rfl, trivial⟩) w hT
    · exact TopNilParam_6_t_law (by exact ⟨hm0, rfl, trivial⟩) w hT
  · cases v1
    · exact TopNilParam_7_f_law (by exact ⟨hm0, rfl, trivial⟩) w hT
    · exact TopNilParam_7_t_law (by exact ⟨hm0, rfl, trivial⟩) w hT
end Go.Proofs.YteajpblmbmncdaaGreatDoor
