/- SolveFields gives true. -/
import Derived.Test.YtjjfahgdmaikpaaGreatDoorLSolveFields0
import Derived.Test.YtjjfahgdmaikpaaGreatDoorLSolveFields1
namespace Go.Proofs.YtjjfahgdmaikpaaGreatDoor
open Go Go.RowKit Ev
set_option maxRecDepth 100000
set_option linter.unusedVariables false
theorem SolveFields_z1 : ∀ m : Int, Ok18 4 [ai (Int.ofNat 1), ai m]
  | .negSucc j => SolveFields_z1_neg j
  | .ofNat 0 => SolveFields_z1_0
  | .ofNat (j + 1) => SolveFields_z1_big j
theorem SolveFields_z2 : ∀ m : Int, Ok18 4 [ai (Int.ofNat 2), ai m]
  | .negSucc j => SolveFields_z2_neg j
  | .ofNat 0 => SolveFields_z2_0
  | .ofNat 1 => SolveFields_z2_1
  | .ofNat (j + 2) => SolveFields_z2_big j
theorem SolveFields_z3 : ∀ m : Int, Ok18 4 [ai (Int.ofNat 3), ai m]
  | .negSucc j => SolveFields_z3_neg j
  | .ofNat 0 => SolveFields_z3_0
  | .ofNat 1 => SolveFields_z3_1
  | .ofNat 2 => SolveFields_z3_2
  | .ofNat (j + 3) => SolveFields_z3_big j
theorem SolveFields_z4 : ∀ m : Int, Ok18 4 [ai (Int.ofNat 4), ai m]
  | .negSucc j => SolveFields_z4_neg j
  | .ofNat 0 => SolveFields_z4_0
  | .ofNat 1 => SolveFields_z4_1
  | .ofNat 2 => SolveFields_z4_2
  | .ofNat 3 => SolveFields_z4_3
  | .ofNat (j + 4) => SolveFields_z4_big j
theorem solveFields_ev : ∀ n m : Int, Ok18 4 [ai n, ai m]
  | .negSucc k, m => SolveFields_neg k m
  | .ofNat 0, m => SolveFields_z0 m
  | .ofNat 1, m => SolveFields_z1 m
  | .ofNat 2, m => SolveFields_z2 m
  | .ofNat 3, m => SolveFields_z3 m
  | .ofNat 4, m => SolveFields_z4 m
  | .ofNat (k + 5), m => SolveFields_big k m
theorem solveFields_true (w : World) (hT : Tab w) (n m : Int) : Calls Tryz.prog 4 #[.int .i64 n, .int .i64 m] w fun e w' => Below w.heap.size w w' ∧ e = .returned (.bool true) :=
  law18 (solveFields_ev n m) (by exact ⟨rfl, rfl, trivial⟩) w hT
end Go.Proofs.YtjjfahgdmaikpaaGreatDoor
