/- ModrefChain gives true. -/
import Derived.Test.YtjjfahgdmaikpaaGreatDoorLModrefChainx
import Derived.Test.YtjjfahgdmaikpaaGreatDoorLModrefChain1t
import Derived.Test.YtjjfahgdmaikpaaGreatDoorLModrefChain2t
import Derived.Test.YtjjfahgdmaikpaaGreatDoorLModrefChain3t
import Derived.Test.YtjjfahgdmaikpaaGreatDoorLModrefChain4t
import Derived.Test.YtjjfahgdmaikpaaGreatDoorLModrefChain5t
import Derived.Test.YtjjfahgdmaikpaaGreatDoorLModrefChain6t
import Derived.Test.YtjjfahgdmaikpaaGreatDoorLModrefChain6f
import Derived.Test.YtjjfahgdmaikpaaGreatDoorLModrefChain7t
import Derived.Test.YtjjfahgdmaikpaaGreatDoorLModrefChain7f
import Derived.Test.YtjjfahgdmaikpaaGreatDoorLModrefChain8t
import Derived.Test.YtjjfahgdmaikpaaGreatDoorLModrefChain8f
import Derived.Test.YtjjfahgdmaikpaaGreatDoorLModrefChain9t
import Derived.Test.YtjjfahgdmaikpaaGreatDoorLModrefChain9f
import Derived.Test.YtjjfahgdmaikpaaGreatDoorLModrefChain10t
import Derived.Test.YtjjfahgdmaikpaaGreatDoorLModrefChain10f
namespace Go.Proofs.YtjjfahgdmaikpaaGreatDoor
open Go Go.RowKit Ev
set_option maxRecDepth 100000
set_option linter.unusedVariables false
theorem modrefChain_true (w : World) (hT : Tab w) (n : Int) (b : Bool) : Calls Tryz.prog 8 #[.int .i64 n, .bool b] w fun e w' => Below w.heap.size w w' ∧ e = .returned (.bool true) := by
  cases b
  · rcases n with n | k
    · by_cases h : 11 ≤ n
      · obtain ⟨k, rfl⟩ : ∃ k, n = k + 11 := ⟨n - 11, by omega⟩
        exact lawT (ModrefChain_bigf k) (by exact ⟨rfl, rfl, trivial⟩) w hT
      · rcases (by omega : n = 0 ∨ n = 1 ∨ n = 2 ∨ n = 3 ∨ n = 4 ∨ n = 5 ∨ n = 6 ∨ n = 7 ∨ n = 8 ∨ n = 9 ∨ n = 10) with rfl | rfl | rfl | rfl | rfl | rfl | rfl | rfl | rfl | rfl | rfl
        · exact lawT ModrefChain_nulf (by exact ⟨rfl, rfl, trivial⟩) w hT
        · exact ModrefChain_1f_law (by exact ⟨rfl, rfl, trivial⟩) w hT
        · exact ModrefChain_2f_law (by exact ⟨rfl, rfl, trivial⟩) w hT
        · exact ModrefChain_3f_law (by exact ⟨rfl, rfl, trivial⟩) w hT
        · exact ModrefChain_4f_law (by exact ⟨rfl, rfl, trivial⟩) w hT
        · exact ModrefChain_5f_law (by exact ⟨rfl, rfl, trivial⟩) w hT
        · exact ModrefChain_6f_law (by exact ⟨rfl, rfl, trivial⟩) w hT
        · exact ModrefChain_7f_law (by exact ⟨rfl, rfl, trivial⟩) w hT
        · exact ModrefChain_8f_law (by exact ⟨rfl, rfl, trivial⟩) w hT
        · exact ModrefChain_9f_law (by exact ⟨rfl, rfl, trivial⟩) w hT
        · exact ModrefChain_10f_law (by exact ⟨rfl, rfl, trivial⟩) w hT
    · exact lawT (ModrefChain_negf k) (by exact ⟨rfl, rfl, trivial⟩) w hT
  · rcases n with n | k
    · by_cases h : 11 ≤ n
      · obtain ⟨k, rfl⟩ : ∃ k, n = k + 11 := ⟨n - 11, by omega⟩
        exact lawT (ModrefChain_bigt k) (by exact ⟨rfl, rfl, trivial⟩) w hT
      · rcases (by omega : n = 0 ∨ n = 1 ∨ n = 2 ∨ n = 3 ∨ n = 4 ∨ n = 5 ∨ n = 6 ∨ n = 7 ∨ n = 8 ∨ n = 9 ∨ n = 10) with rfl | rfl | rfl | rfl | rfl | rfl | rfl | rfl | rfl | rfl | rfl
        · exact lawT ModrefChain_nult (by exact ⟨rfl, rfl, trivial⟩) w hT
        · exact ModrefChain_1t_law (by exact ⟨rfl, rfl, trivial⟩) w hT
        · exact ModrefChain_2t_law (by exact ⟨rfl, rfl, trivial⟩) w hT
        · exact ModrefChain_3t_law (by exact ⟨rfl, rfl, trivial⟩) w hT
        · exact ModrefChain_4t_law (by exact ⟨rfl, rfl, trivial⟩) w hT
        · exact ModrefChain_5t_law (by exact ⟨rfl, rfl, trivial⟩) w hT
        · exact ModrefChain_6t_law (by exact ⟨rfl, rfl, trivial⟩) w hT
        · exact ModrefChain_7t_law (by exact ⟨rfl, rfl, trivial⟩) w hT
        · exact ModrefChain_8t_law (by exact ⟨rfl, rfl, trivial⟩) w hT
        · exact ModrefChain_9t_law (by exact ⟨rfl, rfl, trivial⟩) w hT
        · exact ModrefChain_10t_law (by exact ⟨rfl, rfl, trivial⟩) w hT
    · exact lawT (ModrefChain_negt k) (by exact ⟨rfl, rfl, trivial⟩) w hT
end Go.Proofs.YtjjfahgdmaikpaaGreatDoor
