/- The library's sort, as a hook of the evaluator. -/
import Derived.Test.YteajpblmbmncdaaGreatDoorXvW
import Derived.Test.YteajpblmbmncdaaGreatDoorXvG
import Derived.Test.YteajpblmbmncdaaGreatDoorSoD
import Derived.Test.YteajpblmbmncdaaGreatDoorSl
namespace Go.Proofs.YteajpblmbmncdaaGreatDoor.Ev
open Go Go.RowKit Go.Proofs Go.Shelf Go.Sort
set_option linter.unusedVariables false

theorem sortEdge_ok {K : Nat → Option Obj} : CallOk Tryz.prog K (sortF 105 106) := by
  refine sort_ok (enters_of Tryz.func105 (by kernel_rfl) rfl) fun blk off cap d w hH hblk h0 hsz => ?_
  have eg : ∀ args w, (callFunc 106 args).run Tryz.prog w = .ok (.enter 106 args) w := enters_of Tryz.func106 (by kernel_rfl) rfl
  have h := AnyQ.slices_SortFunc_total Tryz.sortEdge 2 Tryz.isAgg183 Tryz.sizeOf183 encP (fun _ => rfl) (fun x v hv => by simp [encP] at hv; rcases hv with rfl | rfl <;> rfl) lexP swoP 106 #[] blk off cap d w eg (fun _ _ _ _ x y => edges_cmp x y _) hH hblk hsz totP
  exact h
theorem sortCell_ok {K : Nat → Option Obj} : CallOk Tryz.prog K (sortF 236 237) := by
  refine sort_ok (enters_of Tryz.func236 (by kernel_rfl) rfl) fun blk off cap d w hH hblk h0 hsz => ?_
  have eg : ∀ args w, (callFunc 237 args).run Tryz.prog w = .ok (.enter 237 args) w := enters_of Tryz.func237 (by kernel_rfl) rfl
  have h := AnyQ.slices_SortFunc_total Tryz.sortCell 2 Tryz.isAgg114 Tryz.sizeOf114 encP (fun _ => rfl) (fun x v hv => by simp [encP] at hv; rcases hv with rfl | rfl <;> rfl) lexP swoP 237 #[] blk off cap d w eg (fun _ _ _ _ x y => cells_cmp x y _) hH hblk hsz totP
  exact h
end Go.Proofs.YteajpblmbmncdaaGreatDoor.Ev
