/- MemoryCall gives true. -/
import Derived.Test.YtjjfahgdmaikpaaGreatDoorLMemoryCall0
namespace Go.Proofs.YtjjfahgdmaikpaaGreatDoor
open Go Go.RowKit Ev
set_option maxRecDepth 100000
set_option linter.unusedVariables false
theorem memoryCall_ev : ∀ (b : Bool) (n : Int), Ok22 11 [ab b, ai n]
  | true, .negSucc j => MemoryCall_true_neg j
  | true, .ofNat 0 => MemoryCall_true_0
  | true, .ofNat 1 => MemoryCall_true_1
  | true, .ofNat (j + 2) => MemoryCall_true_big j
  | false, .negSucc j => MemoryCall_false_neg j
  | false, .ofNat 0 => MemoryCall_false_0
  | false, .ofNat 1 => MemoryCall_false_1
  | false, .ofNat (j + 2) => MemoryCall_false_big j
theorem memoryCall_true (w : World) (hT : Tab w) (b : Bool) (n : Int) : Calls Tryz.prog 11 #[.bool b, .int .i64 n] w fun e w' => Below w.heap.size w w' ∧ e = .returned (.bool true) :=
  law22 (memoryCall_ev b n) (by exact ⟨rfl, rfl, trivial⟩) w hT
end Go.Proofs.YtjjfahgdmaikpaaGreatDoor
