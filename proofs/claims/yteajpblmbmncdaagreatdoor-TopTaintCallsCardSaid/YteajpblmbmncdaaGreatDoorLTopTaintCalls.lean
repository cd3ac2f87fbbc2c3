/- TopTaintCalls gives true. -/
import Derived.Test.YteajpblmbmncdaaGreatDoorLTopTaintCalls0
import Derived.Test.YteajpblmbmncdaaGreatDoorLTopTaintCalls1
import Derived.Test.YteajpblmbmncdaaGreatDoorLTopTaintCalls2
import Derived.Test.YteajpblmbmncdaaGreatDoorLTopTaintCalls3
import Derived.Test.YteajpblmbmncdaaGreatDoorLTopTaintCalls4
import Derived.Test.YteajpblmbmncdaaGreatDoorLTopTaintCalls5
import Derived.Test.YteajpblmbmncdaaGreatDoorLTopTaintCalls6
import Derived.Test.YteajpblmbmncdaaGreatDoorLTopTaintCalls7
import Derived.Test.YteajpblmbmncdaaGreatDoorLTopTaintCalls8
import Derived.Test.YteajpblmbmncdaaGreatDoorLTopTaintCalls9
import Derived.Test.YteajpblmbmncdaaGreatDoorLTopTaintCalls10
import Derived.Test.YteajpblmbmncdaaGreatDoorLTopTaintCalls11
import Derived.Test.YteajpblmbmncdaaGreatDoorLTopTaintCalls12
import Derived.Test.YteajpblmbmncdaaGreatDoorLTopTaintCalls13
import Derived.Test.YteajpblmbmncdaaGreatDoorLTopTaintCalls14
import Derived.Test.YteajpblmbmncdaaGreatDoorLTopTaintCalls15
import Derived.Test.YteajpblmbmncdaaGreatDoorLTopTaintCalls16
import Derived.Test.YteajpblmbmncdaaGreatDoorLTopTaintCalls17
import Derived.Test.YteajpblmbmncdaaGreatDoorLTopTaintCalls18
import Derived.Test.YteajpblmbmncdaaGreatDoorLTopTaintCalls19
namespace Go.Proofs.YteajpblmbmncdaaGreatDoor
open Go Go.RowKit Ev
set_option maxRecDepth 100000
set_option linter.unusedVariables false
theorem topTaintCalls_true (w : World) (hT : Tab w) (v0 : Int) (v1 : Bool) : Calls Tryz.prog 4 #[.int .i64 v0, .bool v1] w fun e w' => Below w.heap.size w w' ∧ e = .returned (.bool true) := by
  have hm0 := md_of v0 10
  have hr0 := md_lt v0 10 (by decide)
  generalize (v0.tmod ((10 : Nat) : Int)).natAbs = r0 at hm0 hr0
  rcases (by omega : r0 = 0 ∨ r0 = 1 ∨ r0 = 2 ∨ r0 = 3 ∨ r0 = 4 ∨ r0 = 5 ∨ r0 = 6 ∨ r0 = 7 ∨ r0 = 8 ∨ r0 = 9) with rfl | rfl | rfl | rfl | rfl | rfl | rfl | rfl | rfl | rfl
  · cases v1
    · exact TopTaintCalls_0_f_law (by exact ⟨hm0, rfl, trivial⟩) w hT
    · exact TopTaintCalls_0_t_law (by exact ⟨hm0, rfl, trivial⟩) w hT
  · cases v1
    · exact TopTaintCalls_1_f_law (by exact ⟨hm0, rfl, trivial⟩) w hT
    · exact TopTaintCalls_1_t_law (by exact ⟨hm0, rfl, trivial⟩) w hT
  · cases v1
    · exact TopTaintCalls_2_f_law (by exact ⟨hm0, rfl, trivial⟩) w hT
    · exact TopTaintCalls_2_t_law (by exact ⟨hm0, rfl, trivial⟩) w hT
  · cases v1
    · exact TopTaintCalls_3_f_law (by exact ⟨hm0, rfl, trivial⟩) w hT
    · exact TopTaintCalls_3_t_law (by exact ⟨hm0, rfl, trivial⟩) w hT
  · cases v1
    · exact TopTaintCalls_4_f_law (by exact ⟨hm0, rfl, trivial⟩) w hT
    · exact TopTaintCalls_4_t_law (by exact ⟨hm0, rfl, trivial⟩) w hT
  · cases v1
    · exact TopTaintCalls_5_f_law (by exact ⟨hm0, rfl, trivial⟩) w hT
    · exact TopTaintCalls_5_t_law (by exact ⟨hm0, rfl, trivial⟩) w hT
  · cases v1
    · exact TopTaintCalls_6_f_law (by exact ⟨hm0, rfl, trivial⟩) w hT
    · exact TopTaintCalls_6_t_law (by exact ⟨hm0, rfl, trivial⟩) w hT
  · cases v1
    · exact TopTaintCalls_7_f_law (by exact ⟨hm0, rfl, trivial⟩) w hT
    · exact TopTaintCalls_7_t_law (by exact ⟨hm0, rfl, trivial⟩) w hT
  · cases v1
    · exact TopTaintCalls_8_f_law (by exact ⟨hm0, rfl, trivial⟩) w hT
    · exact TopTaintCalls_8_t_law (by exact ⟨hm0, rfl, trivial⟩) w hT
  · cases v1
    · exact TopTaintCalls_9_f_law (by exact ⟨hm0, rfl, trivial⟩) w hT
    · exact TopTaintCalls_9_t_law (by exact ⟨hm0, rfl, trivial⟩) w hT
end Go.Proofs.YteajpblmbmncdaaGreatDoor
