/- TopNilCopy gives true. -/
import Derived.Test.YteajpblmbmncdaaGreatDoorLTopNilCopy0
import Derived.Test.YteajpblmbmncdaaGreatDoorLTopNilCopy1
import Derived.Test.YteajpblmbmncdaaGreatDoorLTopNilCopy2
import Derived.Test.YteajpblmbmncdaaGreatDoorLTopNilCopy3
import Derived.Test.YteajpblmbmncdaaGreatDoorLTopNilCopy4
import Derived.Test.YteajpblmbmncdaaGreatDoorLTopNilCopy5
import Derived.Test.YteajpblmbmncdaaGreatDoorLTopNilCopy6
import Derived.Test.YteajpblmbmncdaaGreatDoorLTopNilCopy7
import Derived.Test.YteajpblmbmncdaaGreatDoorLTopNilCopy8
import Derived.Test.YteajpblmbmncdaaGreatDoorLTopNilCopy9
import Derived.Test.YteajpblmbmncdaaGreatDoorLTopNilCopy10
import Derived.Test.YteajpblmbmncdaaGreatDoorLTopNilCopy11
import Derived.Test.YteajpblmbmncdaaGreatDoorLTopNilCopy12
import Derived.Test.YteajpblmbmncdaaGreatDoorLTopNilCopy13
import Derived.Test.YteajpblmbmncdaaGreatDoorLTopNilCopy14
import Derived.Test.YteajpblmbmncdaaGreatDoorLTopNilCopy15
import Derived.Test.YteajpblmbmncdaaGreatDoorLTopNilCopy16
import Derived.Test.YteajpblmbmncdaaGreatDoorLTopNilCopy17
import Derived.Test.YteajpblmbmncdaaGreatDoorLTopNilCopy18
import Derived.Test.YteajpblmbmncdaaGreatDoorLTopNilCopy19
namespace Go.Proofs.YteajpblmbmncdaaGreatDoor
open Go Go.RowKit Ev
set_option maxRecDepth 100000
set_option linter.unusedVariables false
theorem topNilCopy_true (w : World) (hT : Tab w) (v0 : Int) (v1 : Bool) : Calls Tryz.prog 8 #[.int .i64 v0, .bool v1] w fun e w' => Below w.heap.size w w' ∧ e = .returned (.bool true) := by
  have hm0 := md_of v0 10
  have hr0 := md_lt v0 10 (by decide)
  generalize (v0.tmod ((10 : Nat) : Int)).natAbs = r0 at hm0 hr0
  rcases (by omega : r0 = 0 ∨ r0 = 1 ∨ r0 = 2 ∨ r0 = 3 ∨ r0 = 4 ∨ r0 = 5 ∨ r0 = 6 ∨ r0 = 7 ∨ r0 = 8 ∨ r0 = 9) with rfl | rfl | rfl | rfl | rfl | rfl | rfl | rfl | rfl | rfl
  · cases v1
    · exact lawM TopNilCopy_0_f_all TopNilCopy_0_f_run (by exact ⟨hm0, rfl, trivial⟩) w hT
    · exact lawM TopNilCopy_0_t_all TopNilCopy_0_t_run (by exact ⟨hm0, rfl, trivial⟩) w hT
  · cases v1
    · exact lawM TopNilCopy_1_f_all TopNilCopy_1_f_run (by exact ⟨hm0, rfl, trivial⟩) w hT
    · exact lawM TopNilCopy_1_t_all TopNilCopy_1_t_run (by exact ⟨hm0, rfl, trivial⟩) w hT
  · cases v1
    · exact lawM TopNilCopy_2_f_all TopNilCopy_2_f_run (by exact ⟨hm0, rfl, trivial⟩) w hT
    · exact lawM TopNilCopy_2_t_all TopNilCopy_2_t_run (by exact ⟨hm0, rfl, trivial⟩) w hT
  · cases v1
    · exact lawM TopNilCopy_3_f_all TopNilCopy_3_f_run (by exact ⟨hm0, rfl, trivial⟩) w hT
    · exact lawM TopNilCopy_3_t_all TopNilCopy_3_t_run (by exact ⟨hm0, rfl, trivial⟩) w hT
  · cases v1
    · exact lawM TopNilCopy_4_f_all TopNilCopy_4_f_run (by exact ⟨hm0, rfl, trivial⟩) w hT
    · exact lawM TopNilCopy_4_t_all TopNilCopy_4_t_run (by exact ⟨hm0, rfl, trivial⟩) w hT
  · cases v1
    · exact lawM TopNilCopy_5_f_all TopNilCopy_5_f_run (by exact ⟨hm0, rfl, trivial⟩) w hT
    · exact lawM TopNilCopy_5_t_all TopNilCopy_5_t_run (by exact ⟨hm0, rfl, trivial⟩) w hT
  · cases v1
    · exact lawM TopNilCopy_6_f_all TopNilCopy_6_f_run (by exact ⟨hm0, rfl, trivial⟩) w hT
    · exact lawM TopNilCopy_6_t_all TopNilCopy_6_t_run (by exact ⟨hm0, rfl, trivial⟩) w hT
  · cases v1
    · exact lawM TopNilCopy_7_f_all TopNilCopy_7_f_run (by exact ⟨hm0, rfl, trivial⟩) w hT
    · exact lawM TopNilCopy_7_t_all TopNilCopy_7_t_run (by exact ⟨hm0, rfl, trivial⟩) w hT
  · cases v1
    · exact lawM TopNilCopy_8_f_all TopNilCopy_8_f_run (by exact ⟨hm0, rfl, trivial⟩) w hT
    · exact lawM TopNilCopy_8_t_all TopNilCopy_8_t_run (by exact ⟨hm0, rfl, trivial⟩) w hT
  · cases v1
    · exact lawM TopNilCopy_9_f_all TopNilCopy_9_f_run (by exact ⟨hm0, rfl, trivial⟩) w hT
    · exact lawM TopNilCopy_9_t_all TopNilCopy_9_t_run (by exact ⟨hm0, rfl, trivial⟩) w hT
end Go.Proofs.YteajpblmbmncdaaGreatDoor
