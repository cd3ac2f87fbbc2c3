/- TopLists gives true. -/
import Derived.Test.YtjbnkokcbhfdgabGreatDoorLTopLists0
import Derived.Test.YtjbnkokcbhfdgabGreatDoorLTopLists1
import Derived.Test.YtjbnkokcbhfdgabGreatDoorLTopLists2
import Derived.Test.YtjbnkokcbhfdgabGreatDoorLTopLists3
import Derived.Test.YtjbnkokcbhfdgabGreatDoorLTopLists4
import Derived.Test.YtjbnkokcbhfdgabGreatDoorLTopLists5
import Derived.Test.YtjbnkokcbhfdgabGreatDoorLTopLists6
import Derived.Test.YtjbnkokcbhfdgabGreatDoorLTopLists7
import Derived.Test.YtjbnkokcbhfdgabGreatDoorLTopLists8
import Derived.Test.YtjbnkokcbhfdgabGreatDoorLTopLists9
import Derived.Test.YtjbnkokcbhfdgabGreatDoorLTopLists10
import Derived.Test.YtjbnkokcbhfdgabGreatDoorLTopLists11
import Derived.Test.YtjbnkokcbhfdgabGreatDoorLTopLists12
import Derived.Test.YtjbnkokcbhfdgabGreatDoorLTopLists13
import Derived.Test.YtjbnkokcbhfdgabGreatDoorLTopLists14
namespace Go.Proofs.YtjbnkokcbhfdgabGreatDoor
open Go Go.RowKit Ev
set_option maxRecDepth 100000
set_option linter.unusedVariables false
theorem topLists_true (w : World) (hT : Tab w) (v0 : Int) (v1 : Int) : Calls Tryz.prog 6 #[.int .i64 v0, .int .i64 v1] w fun e w' => Below w.heap.size w w' ∧ e = .returned (.bool true) := by
  have hm0 := md_of v0 5
  have hr0 := md_lt v0 5 (by decide)
  generalize (v0.tmod ((5 : Nat) : Int)).natAbs = r0 at hm0 hr0
  rcases (by omega : r0 = 0 ∨ r0 = 1 ∨ r0 = 2 ∨ r0 = 3 ∨ r0 = 4) with rfl | rfl | rfl | rfl | rfl
  · have hm1 := md_of v1 1
    have hr1 := md_lt v1 1 (by decide)
    generalize (v1.tmod ((1 : Nat) : Int)).natAbs = r1 at hm1 hr1
    obtain rfl : r1 = 0 := by omega
    exact TopLists_0_0_law (by exact ⟨hm0, hm1, trivial⟩) w hT
  · have hm1 := md_of v1 2
    have hr1 := md_lt v1 2 (by decide)
    generalize (v1.tmod ((2 : Nat) : Int)).natAbs = r1 at hm1 hr1
    rcases (by omega : r1 = 0 ∨ r1 = 1) with rfl | rfl
    · exact TopLists_1_0_law (by exact ⟨hm0, hm1, trivial⟩) w hT
    · exact TopLists_1_1_law (by exact ⟨hm0, hm1, trivial⟩) w hT
  · have hm1 := md_of v1 3
    have hr1 := md_lt v1 3 (by decide)
    generalize (v1.tmod ((3 : Nat) : Int)).natAbs = r1 at hm1 hr1
    rcases (by omega : r1 = 0 ∨ r1 = 1 ∨ r1 = 2) with rfl | rfl | rfl
    · exact TopLists_2_0_law (by exact ⟨hm0, hm1, trivial⟩) w hT
    · exact TopLists_2_1_law (by exact ⟨hm0, hm1, trivial⟩) w hT
    · exact TopLists_2_2_law (by exact ⟨hm0, hm1, trivial⟩) w hT
  · have hm1 := md_of v1 4
    have hr1 := md_lt v1 4 (by decide)
    generalize (v1.tmod ((4 : Nat) : Int)).natAbs = r1 at hm1 hr1
    rcases (by omega : r1 = 0 ∨ r1 = 1 ∨ r1 = 2 ∨ r1 = 3) with rfl | rfl | rfl | rfl
    · exact TopLists_3_0_law (by exact ⟨hm0, hm1, trivial⟩) w hT
    · exact TopLists_3_1_law (by exact ⟨hm0, hm1, trivial⟩) w hT
    · exact TopLists_3_2_law (by exact ⟨hm0, hm1, trivial⟩) w hT
    · exact TopLists_3_3_law (by exact ⟨hm0, hm1, trivial⟩) w hT
  · have hm1 := md_of v1 5
    have hr1 := md_lt v1 5 (by decide)
    generalize (v1.tmod ((5 : Nat) : Int)).natAbs = r1 at hm1 hr1
    rcases (by omega : r1 = 0 ∨ r1 = 1 ∨ r1 = 2 ∨ r1 = 3 ∨ r1 = 4) with rfl | rfl | rfl | rfl | rfl
    · exact TopLists_4_0_law (by exact ⟨hm0, hm1, trivial⟩) w hT
    · exact TopLists_4_1_law (by exact ⟨hm0, hm1, trivial⟩) w hT
    · exact TopLists_4_2_law (by exact ⟨hm0, hm1, trivial⟩) w hT
    · exact TopLists_4_3_law (by exact ⟨hm0, hm1, trivial⟩) w hT
    · exact TopLists_4_4_law (by exact ⟨hm0, hm1, trivial⟩) w hT
end Go.Proofs.YtjbnkokcbhfdgabGreatDoor
