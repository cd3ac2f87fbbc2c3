/- CallsBack gives true. -/
import Derived.Test.YtjjfahgdmaikpaaGreatDoorLCallsBackx
import Derived.Test.YtjjfahgdmaikpaaGreatDoorLCallsBack1
import Derived.Test.YtjjfahgdmaikpaaGreatDoorLCallsBack2
import Derived.Test.YtjjfahgdmaikpaaGreatDoorLCallsBack3
import Derived.Test.YtjjfahgdmaikpaaGreatDoorLCallsBack4
import Derived.Test.YtjjfahgdmaikpaaGreatDoorLCallsBack5
import Derived.Test.YtjjfahgdmaikpaaGreatDoorLCallsBack6
import Derived.Test.YtjjfahgdmaikpaaGreatDoorLCallsBack7
import Derived.Test.YtjjfahgdmaikpaaGreatDoorLCallsBack8
import Derived.Test.YtjjfahgdmaikpaaGreatDoorLCallsBack9
import Derived.Test.YtjjfahgdmaikpaaGreatDoorLCallsBack10
import Derived.Test.YtjjfahgdmaikpaaGreatDoorLCallsBack11
import Derived.Test.YtjjfahgdmaikpaaGreatDoorLCallsBack12
import Derived.Test.YtjjfahgdmaikpaaGreatDoorLCallsBack13
import Derived.Test.YtjjfahgdmaikpaaGreatDoorLCallsBack14
import Derived.Test.YtjjfahgdmaikpaaGreatDoorLCallsBack15
import Derived.Test.YtjjfahgdmaikpaaGreatDoorLCallsBack16
import Derived.Test.YtjjfahgdmaikpaaGreatDoorLCallsBack17
import Derived.Test.YtjjfahgdmaikpaaGreatDoorLCallsBack18
import Derived.Test.YtjjfahgdmaikpaaGreatDoorLCallsBack19
import Derived.Test.YtjjfahgdmaikpaaGreatDoorLCallsBack20
namespace Go.Proofs.YtjjfahgdmaikpaaGreatDoor
open Go Go.RowKit Ev
set_option maxRecDepth 100000
set_option linter.unusedVariables false
theorem callsBack_true (w : World) (hT : Tab w) (n : Int) : Calls Tryz.prog 9 #[.int .i64 n] w fun e w' => Below w.heap.size w w' ∧ e = .returned (.bool true) := by
  rcases n with n | k
  · by_cases h : 21 ≤ n
    · obtain ⟨k, rfl⟩ : ∃ k, n = k + 21 := ⟨n - 21, by omega⟩
      exact lawT (CallsBack_big k) (by exact ⟨rfl, trivial⟩) w hT
    · rcases (by omega : n = 0 ∨ n = 1 ∨ n = 2 ∨ n = 3 ∨ n = 4 ∨ n = 5 ∨ n = 6 ∨ n = 7 ∨ n = 8 ∨ n = 9 ∨ n = 10 ∨ n = 11 ∨ n = 12 ∨ n = 13 ∨ n = 14 ∨ n = 15 ∨ n = 16 ∨ n = 17 ∨ n = 18 ∨ n = 19 ∨ n = 20) with rfl | rfl | rfl | rfl | rfl | rfl | rfl | rfl | rfl | rfl | rfl | rfl | rfl | rfl | rfl | rfl | rfl | rfl | rfl | rfl | rfl
      · exact lawT CallsBack_nul (by exact ⟨rfl, trivial⟩) w hT
      · exact lawM CallsBack_1_all CallsBack_1_run (by exact ⟨rfl, trivial⟩) w hT
      · exact lawM CallsBack_2_all CallsBack_2_run (by exact ⟨rfl, trivial⟩) w hT
      · exact lawM CallsBack_3_all CallsBack_3_run (by exact ⟨rfl, trivial⟩) w hT
      · exact lawM CallsBack_4_all CallsBack_4_run (by exact ⟨rfl, trivial⟩) w hT
      · exact lawM CallsBack_5_all CallsBack_5_run (by exact ⟨rfl, trivial⟩) w hT
      · exact lawM CallsBack_6_all CallsBack_6_run (by exact ⟨rfl, trivial⟩) w hT
      · exact lawM CallsBack_7_all CallsBack_7_run (by exact ⟨rfl, trivial⟩) w hT
      · exact lawM CallsBack_8_all CallsBack_8_run (by exact ⟨rfl, trivial⟩) w hT
      · exact lawM CallsBack_9_all CallsBack_9_run (by exact ⟨rfl, trivial⟩) w hT
      · exact lawM CallsBack_10_all CallsBack_10_run (by exact ⟨rfl, trivial⟩) w hT
      · exact lawM CallsBack_11_all CallsBack_11_run (by exact ⟨rfl, trivial⟩) w hT
      · exact lawM CallsBack_12_all CallsBack_12_run (by exact ⟨rfl, trivial⟩) w hT
      · exact lawM CallsBack_13_all CallsBack_13_run (by exact ⟨rfl, trivial⟩) w hT
      · exact lawM CallsBack_14_all CallsBack_14_run (by exact ⟨rfl, trivial⟩) w hT
      · exact lawM CallsBack_15_all CallsBack_15_run (by exact ⟨rfl, trivial⟩) w hT
      · exact lawM CallsBack_16_all CallsBack_16_run (by exact ⟨rfl, trivial⟩) w hT
      · exact lawM CallsBack_17_all CallsBack_17_run (by exact ⟨rfl, trivial⟩) w hT
      · exact lawM CallsBack_18_all CallsBack_18_run (by exact ⟨rfl, trivial⟩) w hT
      · exact lawM CallsBack_19_all CallsBack_19_run (by exact ⟨rfl, trivial⟩) w hT
      · exact lawM CallsBack_20_all CallsBack_20_run (by exact ⟨rfl, trivial⟩) w hT
  · exact lawT (CallsBack_neg k) (by exact ⟨rfl, trivial⟩) w hT
end Go.Proofs.YtjjfahgdmaikpaaGreatDoor
