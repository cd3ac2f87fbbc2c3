/- The library's sort, as a hook of the evaluator. -/
import Derived.Test.YtjbnkokcbhfdgabGreatDoorXvW
import Derived.Test.YtjbnkokcbhfdgabGreatDoorXvG
import Derived.Test.YtjbnkokcbhfdgabGreatDoorSoD
import Derived.Test.YtjbnkokcbhfdgabGreatDoorSl
namespace Go.Proofs.YtjbnkokcbhfdgabGreatDoor.Ev
open Go Go.RowKit Go.Proofs Go.Shelf Go.Sort
set_option linter.unusedVariables false

theorem sortEdge_ok {K : Nat → Option Obj} : CallOk Tryz.prog K (sortF 125 126) := by
  refine sort_ok (enters_of Tryz.func125 (by kernel_rfl) rfl) fun blk off cap d w hH hblk h0 hsz => ?_
  have eg : ∀ args w, (callFunc 126 args).run Tryz.prog w = .ok (.enter 126 args) w := enters_of Tryz.func126 (by kernel_rfl) rfl
  have h := AnyQ.slices_SortFunc_total Tryz.sortEdge 2 Tryz.isAgg210 Tryz.sizeOf210 encP (fun _ => rfl) (fun x v hv => by simp [encP] at hv; rcases hv with rfl | rfl <;> rfl) lexP swoP 126 #[] blk off cap d w eg (fun _ _ _ _ x y => edges_cmp x y _) hH hblk hsz totP
  exact h
theorem sortCell_ok {K : Nat → Option Obj} : CallOk Tryz.prog K (sortF 94 95) := by
  refine sort_ok (enters_of Tryz.func94 (by kernel_rfl) rfl) fun blk off cap d w hH hblk h0 hsz => ?_
  have eg : ∀ args w, (callFunc 95 args).run Tryz.prog w = .ok (.enter 95 args) w := enters_of Tryz.func95 (by kernel_rfl) rfl
  have h := AnyQ.slices_SortFunc_total Tryz.sortCell 2 Tryz.isAgg48 Tryz.sizeOf48 encP (fun _ => rfl) (fun x v hv => by simp [encP] at hv; rcases hv with rfl | rfl <;> rfl) lexP swoP 95 #[] blk off cap d w eg (fun _ _ _ _ x y => cells_cmp x y _) hH hblk hsz totP
  exact h
end Go.Proofs.YtjbnkokcbhfdgabGreatDoor.Ev
