/- CallsChain gives true. -/
import Derived.Test.YtjjfahgdmaikpaaGreatDoorLCallsChainx
import Derived.Test.YtjjfahgdmaikpaaGreatDoorLCallsChain1t
import Derived.Test.YtjjfahgdmaikpaaGreatDoorLCallsChain2t
import Derived.Test.YtjjfahgdmaikpaaGreatDoorLCallsChain3t
import Derived.Test.YtjjfahgdmaikpaaGreatDoorLCallsChain4t
import Derived.Test.YtjjfahgdmaikpaaGreatDoorLCallsChain5t
import Derived.Test.YtjjfahgdmaikpaaGreatDoorLCallsChain6t
import Derived.Test.YtjjfahgdmaikpaaGreatDoorLCallsChain6f
import Derived.Test.YtjjfahgdmaikpaaGreatDoorLCallsChain7t
import Derived.Test.YtjjfahgdmaikpaaGreatDoorLCallsChain7f
import Derived.Test.YtjjfahgdmaikpaaGreatDoorLCallsChain8t
import Derived.Test.YtjjfahgdmaikpaaGreatDoorLCallsChain8f
import Derived.Test.YtjjfahgdmaikpaaGreatDoorLCallsChain9t
import Derived.Test.YtjjfahgdmaikpaaGreatDoorLCallsChain9f
import Derived.Test.YtjjfahgdmaikpaaGreatDoorLCallsChain10t
import Derived.Test.YtjjfahgdmaikpaaGreatDoorLCallsChain10f
import Derived.Test.YtjjfahgdmaikpaaGreatDoorLCallsChain11t
import Derived.Test.YtjjfahgdmaikpaaGreatDoorLCallsChain11f
namespace Go.Proofs.YtjjfahgdmaikpaaGreatDoor
open Go Go.RowKit Ev
set_option maxRecDepth 100000
set_option linter.unusedVariables false
theorem callsChain_true (w : World) (hT : Tab w) (n : Int) (b : Bool) : Calls Tryz.prog 10 #[.int .i64 n, .bool b] w fun e w' => Below w.heap.size w w' ∧ e = .returned (.bool true) := by
  cases b
  · rcases n with n | k
    · by_cases h : 12 ≤ n
      · obtain ⟨k, rfl⟩ : ∃ k, n = k + 12 := ⟨n - 12, by omega⟩
        exact lawT (CallsChain_bigf k) (by exact ⟨rfl, rfl, trivial⟩) w hT
      · rcases (by omega : n = 0 ∨ n = 1 ∨ n = 2 ∨ n = 3 ∨ n = 4 ∨ n = 5 ∨ n = 6 ∨ n = 7 ∨ n = 8 ∨ n = 9 ∨ n = 10 ∨ n = 11) with rfl | rfl | rfl | rfl | rfl | rfl | rfl | rfl | rfl | rfl | rfl | rfl
        · exact lawT CallsChain_nulf (by exact ⟨rfl, rfl, trivial⟩) w hT
        · exact CallsChain_1f_law (by exact ⟨rfl, rfl, trivial⟩) w hT
        · exact CallsChain_2f_law (by exact ⟨rfl, rfl, trivial⟩) w hT
        · exact CallsChain_3f_law (by exact ⟨rfl, rfl, trivial⟩) w hT
        · exact CallsChain_4f_law (by exact ⟨rfl, rfl, trivial⟩) w hT
        · exact CallsChain_5f_law (by exact ⟨rfl, rfl, trivial⟩) w hT
        · exact CallsChain_6f_law (by exact ⟨rfl, rfl, trivial⟩) w hT
        · exact CallsChain_7f_law (by exact ⟨rfl, rfl, trivial⟩) w hT
        · exact CallsChain_8f_law (by exact ⟨rfl, rfl, trivial⟩) w hT
        · exact CallsChain_9f_law (by exact ⟨rfl, rfl, trivial⟩) w hT
        · exact CallsChain_10f_law (by exact ⟨rfl, rfl, trivial⟩) w hT
        · exact CallsChain_11f_law (by exact ⟨rfl, rfl, trivial⟩) w hT
    · exact lawT (CallsChain_negf k) (by exact ⟨rfl, rfl, trivial⟩) w hT
  · rcases n with n | k
    · by_cases h : 12 ≤ n
      · obtain ⟨k, rfl⟩ : ∃ k, n = k + 12 := ⟨n - 12, by omega⟩
        exact lawT (CallsChain_bigt k) (by exact ⟨rfl, rfl, trivial⟩) w hT
      · rcases (by omega : n = 0 ∨ n = 1 ∨ n = 2 ∨ n = 3 ∨ n = 4 ∨ n = 5 ∨ n = 6 ∨ n = 7 ∨ n = 8 ∨ n = 9 ∨ n = 10 ∨ n = 11) with rfl | rfl | rfl | rfl | rfl | rfl | rfl | rfl | rfl | rfl | rfl | rfl
        · exact lawT CallsChain_nult (by exact ⟨rfl, rfl, trivial⟩) w hT
        · exact CallsChain_1t_law (by exact ⟨rfl, rfl, trivial⟩) w hT
        · exact CallsChain_2t_law (by exact ⟨rfl, rfl, trivial⟩) w hT
        · exact CallsChain_3t_law (by exact ⟨rfl, rfl, trivial⟩) w hT
        · exact CallsChain_4t_law (by exact ⟨rfl, rfl, trivial⟩) w hT
        · exact CallsChain_5t_law (by exact ⟨rfl, rfl, trivial⟩) w hT
        · exact CallsChain_6t_law (by exact ⟨rfl, rfl, trivial⟩) w hT
        · exact CallsChain_7t_law (by exact ⟨rfl, rfl, trivial⟩) w hT
        · exact CallsChain_8t_law (by exact ⟨rfl, rfl, trivial⟩) w hT
        · exact CallsChain_9t_law (by exact ⟨rfl, rfl, trivial⟩) w hT
        · exact CallsChain_10t_law (by exact ⟨rfl, rfl, trivial⟩) w hT
        · exact CallsChain_11t_law (by exact ⟨rfl, rfl, trivial⟩) w hT
    · exact lawT (CallsChain_negt k) (by exact ⟨rfl, rfl, trivial⟩) w hT
end Go.Proofs.YtjjfahgdmaikpaaGreatDoor
