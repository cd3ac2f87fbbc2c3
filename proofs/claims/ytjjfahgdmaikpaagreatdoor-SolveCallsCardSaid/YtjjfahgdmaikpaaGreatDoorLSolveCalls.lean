/- SolveCalls gives true. -/
import Derived.Test.YtjjfahgdmaikpaaGreatDoorLSolveCallsx
import Derived.Test.YtjjfahgdmaikpaaGreatDoorLSolveCalls1
import Derived.Test.YtjjfahgdmaikpaaGreatDoorLSolveCalls2
import Derived.Test.YtjjfahgdmaikpaaGreatDoorLSolveCalls3
import Derived.Test.YtjjfahgdmaikpaaGreatDoorLSolveCalls4
import Derived.Test.YtjjfahgdmaikpaaGreatDoorLSolveCalls5
import Derived.Test.YtjjfahgdmaikpaaGreatDoorLSolveCalls6
namespace Go.Proofs.YtjjfahgdmaikpaaGreatDoor
open Go Go.RowKit Ev
set_option maxRecDepth 100000
set_option linter.unusedVariables false
theorem solveCalls_true (w : World) (hT : Tab w) (n : Int) : Calls Tryz.prog 6 #[.int .i64 n] w fun e w' => Below w.heap.size w w' ∧ e = .returned (.bool true) := by
  rcases n with n | k
  · by_cases h : 7 ≤ n
    · obtain ⟨k, rfl⟩ : ∃ k, n = k + 7 := ⟨n - 7, by omega⟩
      exact lawT (SolveCalls_big k) (by exact ⟨rfl, trivial⟩) w hT
    · rcases (by omega : n = 0 ∨ n = 1 ∨ n = 2 ∨ n = 3 ∨ n = 4 ∨ n = 5 ∨ n = 6) with rfl | rfl | rfl | rfl | rfl | rfl | rfl
      · exact lawT SolveCalls_nul (by exact ⟨rfl, trivial⟩) w hT
      · exact lawM SolveCalls_1_all SolveCalls_1_run (by exact ⟨rfl, trivial⟩) w hT
      · exact lawM SolveCalls_2_all SolveCalls_2_run (by exact ⟨rfl, trivial⟩) w hT
      · exact lawM SolveCalls_3_all SolveCalls_3_run (by exact ⟨rfl, trivial⟩) w hT
      · exact lawM SolveCalls_4_all SolveCalls_4_run (by exact ⟨rfl, trivial⟩) w hT
      · exact lawM SolveCalls_5_all SolveCalls_5_run (by exact ⟨rfl, trivial⟩) w hT
      · exact lawM SolveCalls_6_all SolveCalls_6_run (by exact ⟨rfl, trivial⟩) w hT
  · exact lawT (SolveCalls_neg k) (by exact ⟨rfl, trivial⟩) w hT
end Go.Proofs.YtjjfahgdmaikpaaGreatDoor
