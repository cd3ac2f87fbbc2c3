/- TopFreeAlias gives true. -/
import Derived.Test.YteajpblmbmncdaaGreatDoorLTopFreeAlias0
import Derived.Test.YteajpblmbmncdaaGreatDoorLTopFreeAlias1
import Derived.Test.YteajpblmbmncdaaGreatDoorLTopFreeAlias2
import Derived.Test.YteajpblmbmncdaaGreatDoorLTopFreeAlias3
import Derived.Test.YteajpblmbmncdaaGreatDoorLTopFreeAlias4
import Derived.Test.YteajpblmbmncdaaGreatDoorLTopFreeAlias5
import Derived.Test.YteajpblmbmncdaaGreatDoorLTopFreeAlias6
import Derived.Test.YteajpblmbmncdaaGreatDoorLTopFreeAlias7
import Derived.Test.YteajpblmbmncdaaGreatDoorLTopFreeAlias8
import Derived.Test.YteajpblmbmncdaaGreatDoorLTopFreeAlias9
import Derived.Test.YteajpblmbmncdaaGreatDoorLTopFreeAlias10
import Derived.Test.YteajpblmbmncdaaGreatDoorLTopFreeAlias11
import Derived.Test.YteajpblmbmncdaaGreatDoorLTopFreeAlias12
import Derived.Test.YteajpblmbmncdaaGreatDoorLTopFreeAlias13
import Derived.Test.YteajpblmbmncdaaGreatDoorLTopFreeAlias14
import Derived.Test.YteajpblmbmncdaaGreatDoorLTopFreeAlias15
namespace Go.Proofs.YteajpblmbmncdaaGreatDoor
open Go Go.RowKit Ev
set_option maxRecDepth 100000
set_option linter.unusedVariables false
theorem topFreeAlias_true (w : World) (hT : Tab w) (v0 : Int) (v1 : Bool) : Calls Tryz.prog 6 #[.int .i64 v0, .bool v1] w fun e w' => Below w.heap.size w w' ∧ e = .returned (.bool true) := by
  have hm0 := md_of v0 8
  have hr0 := md_lt v0 8 (by decide)
  generalize (v0.tmod ((8 : Nat) : Int)).natAbs = r0 at hm0 hr0
  rcases (by omega : r0 = 0 ∨ r0 = 1 ∨ r0 = 2 ∨ r0 = 3 ∨ r0 = 4 ∨ r0 = 5 ∨ r0 = 6 ∨ r0 = 7) with rfl | rfl | rfl | rfl | rfl | rfl | rfl | rfl
  · cases v1
    · exact lawM TopFreeAlias_0_f_all TopFreeAlias_0_f_run (by exact ⟨hm0, rfl, trivial⟩) w hT
    · exact lawM TopFreeAlias_0_t_all TopFreeAlias_0_t_run (by exact ⟨hm0, rfl, trivial⟩) w hT
  · cases v1
    · exact lawM TopFreeAlias_1_f_all TopFreeAlias_1_f_run (by exact ⟨hm0, rfl, trivial⟩) w hT
    · exact lawM TopFreeAlias_1_t_all TopFreeAlias_1_t_run (by exact ⟨hm0, rfl, trivial⟩) w hT
  · cases v1
    · exact lawM TopFreeAlias_2_f_all TopFreeAlias_2_f_run (by exact ⟨hm0, rfl, trivial⟩) w hT
    · exact lawM TopFreeAlias_2_t_all TopFreeAlias_2_t_run (by exact ⟨hm0, rfl, trivial⟩) w hT
  · cases v1
    · exact lawM TopFreeAlias_3_f_all TopFreeAlias_3_f_run (by exact ⟨hm0, rfl, trivial⟩) w hT
    · exact lawM TopFreeAlias_3_t_all TopFreeAlias_3_t_run (by exact ⟨hm0, rfl, trivial⟩) w hT
  · cases v1
    · exact lawM TopFreeAlias_4_f_all TopFreeAlias_4_f_run (by exact ⟨hm0, rfl, trivial⟩) w hT
    · exact lawM TopFreeAlias_4_t_all TopFreeAlias_4_t_run (by exact ⟨hm0, rfl, trivial⟩) w hT
  · cases v1
    · exact lawM TopFreeAlias_5_f_all TopFreeAlias_5_f_run (by exact ⟨hm0, rfl, trivial⟩) w hT
    · exact lawM TopFreeAlias_5_t_all TopFreeAlias_5_t_run (by exact ⟨hm0, rfl, trivial⟩) w hT
  · cases v1
    · exact lawM TopFreeAlias_6_f_all TopFreeAlias_6_f_run (by exact ⟨hm0, rfl, trivial⟩) w hT
    · exact lawM TopFreeAlias_6_t_all TopFreeAlias_6_t_run (by exact ⟨hm0, rfl, trivial⟩) w hT
  · cases v1
    · exact lawM TopFreeAlias_7_f_all TopFreeAlias_7_f_run (by exact ⟨hm0, rfl, trivial⟩) w hT
    · exact lawM TopFreeAlias_7_t_all TopFreeAlias_7_t_run (by exact ⟨hm0, rfl, trivial⟩) w hT
end Go.Proofs.YteajpblmbmncdaaGreatDoor
