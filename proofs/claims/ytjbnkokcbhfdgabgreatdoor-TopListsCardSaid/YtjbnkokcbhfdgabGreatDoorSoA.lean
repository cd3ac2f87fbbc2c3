/- The comparison of two pairs of numbers, as the program's closures make it. -/
import Derived.Test.YtjbnkokcbhfdgabGreatDoorProg
import Derived.WalkKit
import Derived.Shelf.SlSortCmp.NoneTotal
import Derived.Deep.Draws
namespace Go.Proofs.YtjbnkokcbhfdgabGreatDoor
set_option maxRecDepth 10000
open Go.RowKit Go.Shelf Go.Lib Go.Sort
set_option linter.unusedVariables false

theorem isNaN_int (x : Int) (W : World) : Calls Tryz.prog 159 #[.int .i64 x] W fun e w' => e = .returned (.bool false) ∧ w' = W := by
  go_enter Tryz.func159, Tryz.ntmps159
  go_wp2
  go_ret
  simp
theorem compare_int (x y : Int) (W : World) : Calls Tryz.prog 97 #[.int .i64 x, .int .i64 y] W fun e w' => e = .returned (.int .i64 (Lib.compareInt x y)) ∧ w' = W := by
  have hn := isNaN_int
  unfold Lib.compareInt
  by_cases h1 : x < y
  · have d1 : decide (x < y) = true := decide_eq_true h1
    rw [if_pos h1]
    clear h1
    go_enter Tryz.func97, Tryz.ntmps97
    go_wp2_with (go_at_call 159; refine (hn _ _).mono ?_; rintro e w' ⟨rfl, rfl⟩)
    go_ret
    exact ⟨rfl, rfl⟩
  · have d1 : decide (x < y) = false := decide_eq_false h1
    rw [if_neg h1]
    by_cases h2 : y < x
    · have d2 : decide (y < x) = true := decide_eq_true h2
      rw [if_pos h2]
      clear h1 h2
      go_enter Tryz.func97, Tryz.ntmps97
      go_wp2_with (go_at_call 159; refine (hn _ _).mono ?_; rintro e w' ⟨rfl, rfl⟩)
      go_ret
      exact ⟨rfl, rfl⟩
    · have d2 : decide (y < x) = false := decide_eq_false h2
      rw [if_neg h2]
      clear h1 h2
      go_enter Tryz.func97, Tryz.ntmps97
      go_wp2_with (go_at_call 159; refine (hn _ _).mono ?_; rintro e w' ⟨rfl, rfl⟩)
      go_ret
      exact ⟨rfl, rfl⟩
end Go.Proofs.YtjbnkokcbhfdgabGreatDoor
