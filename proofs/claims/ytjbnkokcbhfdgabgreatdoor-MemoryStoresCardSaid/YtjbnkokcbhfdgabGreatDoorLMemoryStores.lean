/- MemoryStores gives true. -/
import Derived.Test.YtjbnkokcbhfdgabGreatDoorLMemoryStores1
import Derived.Test.YtjbnkokcbhfdgabGreatDoorLMemoryStores2
import Derived.Test.YtjbnkokcbhfdgabGreatDoorLMemoryStores3
import Derived.Test.YtjbnkokcbhfdgabGreatDoorLMemoryStores4
import Derived.Test.YtjbnkokcbhfdgabGreatDoorLMemoryStores5
import Derived.Test.YtjbnkokcbhfdgabGreatDoorLMemoryStores6
import Derived.Test.YtjbnkokcbhfdgabGreatDoorLMemoryStores7
import Derived.Test.YtjbnkokcbhfdgabGreatDoorLMemoryStores8
import Derived.Test.YtjbnkokcbhfdgabGreatDoorLMemoryStores9
import Derived.Test.YtjbnkokcbhfdgabGreatDoorLMemoryStores10
import Derived.Test.YtjbnkokcbhfdgabGreatDoorLMemoryStores11
import Derived.Test.YtjbnkokcbhfdgabGreatDoorLMemoryStores12
import Derived.Test.YtjbnkokcbhfdgabGreatDoorLMemoryStores13
import Derived.Test.YtjbnkokcbhfdgabGreatDoorLMemoryStores14
import Derived.Test.YtjbnkokcbhfdgabGreatDoorLMemoryStores15
import Derived.Test.YtjbnkokcbhfdgabGreatDoorLMemoryStores16
import Derived.Test.YtjbnkokcbhfdgabGreatDoorLMemoryStores17
import Derived.Test.YtjbnkokcbhfdgabGreatDoorLMemoryStores18
import Derived.Test.YtjbnkokcbhfdgabGreatDoorLMemoryStores19
import Derived.Test.YtjbnkokcbhfdgabGreatDoorLMemoryStores20
namespace Go.Proofs.YtjbnkokcbhfdgabGreatDoor
open Go Go.RowKit Ev
set_option maxRecDepth 100000
set_option linter.unusedVariables false
theorem MemoryStores_neg (k : Nat) (m : Int) : isBool true (runW hkT 3 [ai (Int.negSucc k), ai m] s0) = true := by kernel_rfl
theorem MemoryStores_nul (m : Int) : isBool true (runW hkT 3 [ai (Int.ofNat 0), ai m] s0) = true := by kernel_rfl
theorem MemoryStores_big (k : Nat) (m : Int) : isBool true (runW hkT 3 [ai (Int.ofNat (k + 21)), ai m] s0) = true := by kernel_rfl
theorem memoryStores_true (w : World) (hT : Tab w) (n m : Int) : Calls Tryz.prog 3 #[.int .i64 n, .int .i64 m] w fun e w' => Below w.heap.size w w' ∧ e = .returned (.bool true) := by
  rcases n with n | k
  · by_cases h : 21 ≤ n
    · obtain ⟨k, rfl⟩ : ∃ k, n = k + 21 := ⟨n - 21, by omega⟩
      exact lawT (MemoryStores_big k m) (by exact ⟨rfl, rfl, trivial⟩) w hT
    · rcases (by omega : n = 0 ∨ n = 1 ∨ n = 2 ∨ n = 3 ∨ n = 4 ∨ n = 5 ∨ n = 6 ∨ n = 7 ∨ n = 8 ∨ n = 9 ∨ n = 10 ∨ n = 11 ∨ n = 12 ∨ n = 13 ∨ n = 14 ∨ n = 15 ∨ n = 16 ∨ n = 17 ∨ n = 18 ∨ n = 19 ∨ n = 20) with rfl | rfl | rfl | rfl | rfl | rfl | rfl | rfl | rfl | rfl | rfl | rfl | rfl | rfl | rfl | rfl | rfl | rfl | rfl | rfl | rfl
      · exact lawT (MemoryStores_nul m) (by exact ⟨rfl, rfl, trivial⟩) w hT
      · exact MemoryStores_1_all w hT m
      · exact MemoryStores_2_all w hT m
      · exact MemoryStores_3_all w hT m
      · exact MemoryStores_4_all w hT m
      · exact MemoryStores_5_all w hT m
      · exact MemoryStores_6_all w hT m
      · exact MemoryStores_7_all w hT m
      · exact MemoryStores_8_all w hT m
      · exact MemoryStores_9_all w hT m
      · exact MemoryStores_10_all w hT m
      · exact MemoryStores_11_all w hT m
      · exact MemoryStores_12_all w hT m
      · exact MemoryStores_13_all w hT m
      · exact MemoryStores_14_all w hT m
      · exact MemoryStores_15_all w hT m
      · exact MemoryStores_16_all w hT m
      · exact MemoryStores_17_all w hT m
      · exact MemoryStores_18_all w hT m
      · exact MemoryStores_19_all w hT m
      · exact MemoryStores_20_all w hT m
  · exact lawT (MemoryStores_neg k m) (by exact ⟨rfl, rfl, trivial⟩) w hT
end Go.Proofs.YtjbnkokcbhfdgabGreatDoor
