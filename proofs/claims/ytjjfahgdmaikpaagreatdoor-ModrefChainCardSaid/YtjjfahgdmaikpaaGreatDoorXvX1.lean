/- The library's sort, as a hook of the evaluator. -/
import Derived.Test.YtjjfahgdmaikpaaGreatDoorXvW
import Derived.Test.YtjjfahgdmaikpaaGreatDoorXvG
import Derived.Test.YtjjfahgdmaikpaaGreatDoorSoC
import Derived.Test.YtjjfahgdmaikpaaGreatDoorSl
namespace Go.Proofs.YtjjfahgdmaikpaaGreatDoor.Ev
open Go Go.RowKit Go.Proofs Go.Shelf Go.Sort
set_option linter.unusedVariables false

theorem sortEdge_ok {K : Nat → Option Obj} : CallOk Tryz.prog K (sortF 66 67) := by
  refine sort_ok (enters_of Tryz.func66 (by kernel_rfl) rfl) fun blk off cap d w hH hblk h0 hsz => ?_
  have eg : ∀ args w, (callFunc 67 args).run Tryz.prog w = .ok (.enter 67 args) w := enters_of Tryz.func67 (by kernel_rfl) rfl
  have h := AnyQ.slices_SortFunc_total Tryz.sortEdge 2 Tryz.isAgg112 Tryz.sizeOf112 encP (fun _ => rfl) (fun x v hv => by simp [encP] at hv; rcases hv with rfl | rfl <;> rfl) lexP swoP 67 #[] blk off cap d w eg (fun _ _ _ _ x y => edges_cmp x y _) hH hblk hsz totP
  exact h
end Go.Proofs.YtjjfahgdmaikpaaGreatDoor.Ev
