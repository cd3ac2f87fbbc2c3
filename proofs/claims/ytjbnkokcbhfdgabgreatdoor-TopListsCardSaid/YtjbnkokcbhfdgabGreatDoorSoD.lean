/- The closure that compares two cells. -/
import Derived.Test.YtjbnkokcbhfdgabGreatDoorSoC
import Derived.StillTailTactics
import Derived.Test.YtjbnkokcbhfdgabGreatDoorBase
namespace Go.Proofs.YtjbnkokcbhfdgabGreatDoor
open Go.RowKit Go.Shelf Go.Lib Go.Sort
set_option linter.unusedVariables false
set_option maxRecDepth 10000

set_option maxHeartbeats 8000000 in
theorem cells_cmp (x y : Int × Int) (W : World) : Calls Tryz.prog 95 #[.agg #[.int .i64 x.1, .int .i64 x.2], .agg #[.int .i64 y.1, .int .i64 y.2]] W fun e w' => e = .returned (.int .i64 (lexi x y)) ∧ ∃ q os', w' = grow (W.drewN q) os' := by
  have hc1 := fun W => compare_int x.1 y.1 W
  have hc2 := fun W => compare_int x.2 y.2 W
  unfold lexi
  generalize Lib.compareInt x.1 y.1 = r1 at hc1 ⊢
  generalize Lib.compareInt x.2 y.2 = r2 at hc2 ⊢
  have ho := fun b c W h0 h1 => or2 b c r1 r2 W h0 h1
  generalize (if r1 = 0 then r2 else r1) = r3 at ho ⊢
  go_enter Tryz.func95, Tryz.ntmps95
  go_wp2
  have d0 : (((W.alloc (.cells #[.int .i64 x.1, .int .i64 x.2] 48)).alloc (.cells #[.int .i64 y.1, .int .i64 y.2] 48)).drewN 1).cell? ⟨W.heap.size, 0, none⟩ = some (.int .i64 x.1) := by simp
  have d1 : (((W.alloc (.cells #[.int .i64 x.1, .int .i64 x.2] 48)).alloc (.cells #[.int .i64 y.1, .int .i64 y.2] 48)).drewN 1).cell? ⟨W.heap.size, 1, none⟩ = some (.int .i64 x.2) := by simp
  have d2 : (((W.alloc (.cells #[.int .i64 x.1, .int .i64 x.2] 48)).alloc (.cells #[.int .i64 y.1, .int .i64 y.2] 48)).drewN 1).cell? ⟨W.heap.size + 1, 0, none⟩ = some (.int .i64 y.1) := by simp
  have d3 : (((W.alloc (.cells #[.int .i64 x.1, .int .i64 x.2] 48)).alloc (.cells #[.int .i64 y.1, .int .i64 y.2] 48)).drewN 1).cell? ⟨W.heap.size + 1, 1, none⟩ = some (.int .i64 y.2) := by simp
  refine wp_region_still_tail 10 (by kernel_rfl) (by kernel_rfl) ?_
  change wpStill _ _ (((W.alloc (.cells #[.int .i64 x.1, .int .i64 x.2] 48)).alloc (.cells #[.int .i64 y.1, .int .i64 y.2] 48)).drewN 1) _ _ _
  obtain ⟨os1, hW3⟩ : ∃ os1, (((W.alloc (.cells #[.int .i64 x.1, .int .i64 x.2] 48)).alloc (.cells #[.int .i64 y.1, .int .i64 y.2] 48)).drewN 1) = grow (W.drewN 1) os1 := ⟨_, by rw [alloc_eq_grow, alloc_eq_grow, grow_grow]; rfl⟩
  rw [hW3] at d0 d1 d2 d3 ⊢
  have HE := Lib.hid hW3
  clear hW3
  generalize hW3 : grow (W.drewN 1) os1 = W3 at d0 d1 d2 d3 HE ⊢
  have HW := Lib.hid hW3
  clear hW3
  simp only [List.take_succ_cons, List.take_zero, List.drop_succ_cons, List.drop_zero]
  still_step
  still_step
  still_step
  still_step
  still_call (hc1 W3)
  still_step
  still_step
  still_step
  still_step
  still_call (hc2 W3)
  refine wpStill_nil ?_
  change wpList _ _ _ _ _ (((W.alloc (.cells #[.int .i64 x.1, .int .i64 x.2] 48)).alloc (.cells #[.int .i64 y.1, .int .i64 y.2] 48)).drewN 1)
  rw [HE.out]
  clear HE
  go_wp2_with (go_at_call 96; refine (ho _ _ _ (by simp) (by simp)).mono ?_; rintro e w' ⟨rfl, rfl⟩)
  go_ret
  exact ⟨rfl, 1, os1 ++ #[_], by rw [← HW.out, alloc_eq_grow, grow_grow]⟩
end Go.Proofs.YtjbnkokcbhfdgabGreatDoor
