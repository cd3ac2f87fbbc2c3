/- SolveDeep gives true. -/
import Derived.Test.YtjjfahgdmaikpaaGreatDoorLSolveDeep0
import Derived.Test.YtjjfahgdmaikpaaGreatDoorLSolveDeep1
import Derived.Test.YtjjfahgdmaikpaaGreatDoorLSolveDeep2
namespace Go.Proofs.YtjjfahgdmaikpaaGreatDoor
open Go Go.RowKit Ev
set_option maxRecDepth 100000
set_option linter.unusedVariables false
theorem solveDeep_ev : ∀ n : Int, Ok18 5 [ai n]
  | .negSucc k => SolveDeep_neg k
  | .ofNat 0 => SolveDeep_z0
  | .ofNat 1 => SolveDeep_z1
  | .ofNat 2 => SolveDeep_z2
  | .ofNat 3 => SolveDeep_z3
  | .ofNat 4 => SolveDeep_z4
  | .ofNat 5 => SolveDeep_z5
  | .ofNat 6 => SolveDeep_z6
  | .ofNat (k + 7) => SolveDeep_big k
theorem solveDeep_true (w : World) (hT : Tab w) (n : Int) : Calls Tryz.prog 5 #[.int .i64 n] w fun e w' => Below w.heap.size w w' ∧ e = .returned (.bool true) :=
  law18 (solveDeep_ev n) (by exact ⟨rfl, trivial⟩) w hT
end Go.Proofs.YtjjfahgdmaikpaaGreatDoor
