/- TopSwap gives true. -/
import Derived.Test.YteajpblmbmncdaaGreatDoorLTopSwap0
import Derived.Test.YteajpblmbmncdaaGreatDoorLTopSwap1
import Derived.Test.YteajpblmbmncdaaGreatDoorLTopSwap2
import Derived.Test.YteajpblmbmncdaaGreatDoorLTopSwap3
import Derived.Test.YteajpblmbmncdaaGreatDoorLTopSwap4
import Derived.Test.YteajpblmbmncdaaGreatDoorLTopSwap5
import Derived.Test.YteajpblmbmncdaaGreatDoorLTopSwap6
import Derived.Test.YteajpblmbmncdaaGreatDoorLTopSwap7
import Derived.Test.YteajpblmbmncdaaGreatDoorLTopSwap8
import Derived.Test.YteajpblmbmncdaaGreatDoorLTopSwap9
import Derived.Test.YteajpblmbmncdaaGreatDoorLTopSwap10
import Derived.Test.YteajpblmbmncdaaGreatDoorLTopSwap11
import Derived.Test.YteajpblmbmncdaaGreatDoorLTopSwap12
import Derived.Test.YteajpblmbmncdaaGreatDoorLTopSwap13
namespace Go.Proofs.YteajpblmbmncdaaGreatDoor
open Go Go.RowKit Ev
set_option maxRecDepth 100000
set_option linter.unusedVariables false
theorem topSwap_true (w : World) (hT : Tab w) (v0 : Int) (v1 : Bool) : Calls Tryz.prog 9 #[.int .i64 v0, .bool v1] w fun e w' => Below w.heap.size w w' ∧ e = .returned (.bool true) := by
  have hm0 := md_of v0 7
  have hr0 := md_lt v0 7 (by decide)
  generalize (v0.tmod ((7 : Nat) : Int)).natAbs = r0 at hm0 hr0
  rcases (by omega : r0 = 0 ∨ r0 = 1 ∨ r0 = 2 ∨ r0 = 3 ∨ r0 = 4 ∨ r0 = 5 ∨ r0 = 6) with rfl | rfl | rfl | rfl | rfl | rfl | rfl
  · cases v1
    · exact TopSwap_0_f_law (by exact ⟨hm0, rfl, trivial⟩) w hT
    · exact TopSwap_0_t_law (by exact ⟨hm0, rfl, trivial⟩) w hT
  · cases v1
    · exact TopSwap_1_f_law (by exact ⟨hm0, rfl, trivial⟩) w hT
    · exact TopSwap_1_t_law (by exact ⟨hm0, rfl, trivial⟩) w hT
  · cases v1
    · exact TopSwap_2_f_law (by exact ⟨hm0, rfl, trivial⟩) w hT
    · exact TopSwap_2_t_law (by exact ⟨hm0, rfl, trivial⟩) w hT
  · cases v1
    · exact TopSwap_3_f_law (by exact ⟨hm0, rfl, trivial⟩) w hT
    · exact TopSwap_3_t_law (by exact ⟨hm0, rfl, trivial⟩) w hT
  · cases v1
    · exact TopSwap_4_f_law (by exact ⟨hm0, rfl, trivial⟩) w hT
    · exact TopSwap_4_t_law (by exact ⟨hm0, rfl, trivial⟩) w hT
  · cases v1
    · exact TopSwap_5_f_law (by exact ⟨hm0, rfl, trivial⟩) w hT
    · exact TopSwap_5_t_law (by exact ⟨hm0, rfl, trivial⟩) w hT
  · cases v1
    · exact TopSwap_6_f_law (by exact ⟨hm0, rfl, trivial⟩) w hT
    · exact TopSwap_6_t_law (by exact ⟨hm0, rfl, trivial⟩) w hT
end Go.Proofs.YteajpblmbmncdaaGreatDoor
