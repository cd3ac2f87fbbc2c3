/- cmp.Compare at int, cmp.Or of five numbers. -/
import Derived.Test.YtjbnkokcbhfdgabGreatDoorPla
import Derived.Test.YtjbnkokcbhfdgabGreatDoorSoA
import Derived.WalkKit
import Derived.Deep.Draws
import Derived.StillTailTactics
namespace Go.Proofs.YtjbnkokcbhfdgabGreatDoor
open Go.RowKit Go.Shelf Go.Lib
set_option linter.unusedVariables false
set_option linter.unusedSimpArgs false
set_option maxRecDepth 10000

set_option maxHeartbeats 4000000 in
theorem or5 (b c : Nat) (x0 x1 x2 x3 x4 : Int) (W : World) (h0 : W.cell? ⟨b, 0, none⟩ = some (.int .i64 x0)) (h1 : W.cell? ⟨b, 1, none⟩ = some (.int .i64 x1)) (h2 : W.cell? ⟨b, 2, none⟩ = some (.int .i64 x2)) (h3 : W.cell? ⟨b, 3, none⟩ = some (.int .i64 x3)) (h4 : W.cell? ⟨b, 4, none⟩ = some (.int .i64 x4)) :
    Calls Tryz.prog 96 #[.slice (some ⟨b, 0, none⟩) 5 c] W fun e w' => e = .returned (.int .i64 (orI x0 (orI x1 (orI x2 (orI x3 x4))))) ∧ w' = W := by
  by_cases e0 : x0 = 0
  · subst e0
    by_cases e1 : x1 = 0
    · subst e1
      by_cases e2 : x2 = 0
      · subst e2
        by_cases e3 : x3 = 0
        · subst e3
          by_cases e4 : x4 = 0
          · subst e4
            simp only [orI, if_pos]
            go_enter Tryz.func96, Tryz.ntmps96
            go_wp2
            refine wp_loop_rounds 6 ?_
            rw [rounds_succ]
            go_wp2
            rw [rounds_succ]
            go_wp2
            rw [rounds_succ]
            go_wp2
            rw [rounds_succ]
            go_wp2
            rw [rounds_succ]
            go_wp2
            rw [rounds_succ]
            go_wp2
            go_ret
            exact ⟨rfl, rfl⟩
          · have d : decide (x4 = 0) = false := decide_eq_false e4
            simp only [orI, if_pos, if_neg e4]
            go_enter Tryz.func96, Tryz.ntmps96
            go_wp2
            refine wp_loop_rounds 5 ?_
            rw [rounds_succ]
            go_wp2
            rw [rounds_succ]
            go_wp2
            rw [rounds_succ]
            go_wp2
            rw [rounds_succ]
            go_wp2
            rw [rounds_succ]
            go_wp2
            go_ret
            exact ⟨rfl, rfl⟩
        · have d : decide (x3 = 0) = false := decide_eq_false e3
          simp only [orI, if_pos, if_neg e3]
          go_enter Tryz.func96, Tryz.ntmps96
          go_wp2
          refine wp_loop_rounds 4 ?_
          rw [rounds_succ]
          go_wp2
          rw [rounds_succ]
          go_wp2
          rw [rounds_succ]
          go_wp2
          rw [rounds_succ]
          go_wp2
          go_ret
          exact ⟨rfl, rfl⟩
      · have d : decide (x2 = 0) = false := decide_eq_false e2
        simp only [orI, if_pos, if_neg e2]
        go_enter Tryz.func96, Tryz.ntmps96
        go_wp2
        refine wp_loop_rounds 3 ?_
        rw [rounds_succ]
        go_wp2
        rw [rounds_succ]
        go_wp2
        rw [rounds_succ]
        go_wp2
        go_ret
        exact ⟨rfl, rfl⟩
    · have d : decide (x1 = 0) = false := decide_eq_false e1
      simp only [orI, if_pos, if_neg e1]
      go_enter Tryz.func96, Tryz.ntmps96
      go_wp2
      refine wp_loop_rounds 2 ?_
      rw [rounds_succ]
      go_wp2
      rw [rounds_succ]
      go_wp2
      go_ret
      exact ⟨rfl, rfl⟩
  · have d : decide (x0 = 0) = false := decide_eq_false e0
    simp only [orI, if_pos, if_neg e0]
    go_enter Tryz.func96, Tryz.ntmps96
    go_wp2
    refine wp_loop_rounds 1 ?_
    rw [rounds_succ]
    go_wp2
    go_ret
    exact ⟨rfl, rfl⟩
end Go.Proofs.YtjbnkokcbhfdgabGreatDoor
