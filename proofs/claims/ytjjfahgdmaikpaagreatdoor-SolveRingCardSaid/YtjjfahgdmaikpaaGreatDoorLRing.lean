/- SolveRing gives true. -/
import Derived.Test.YtjjfahgdmaikpaaGreatDoorLSolveRing0
import Derived.Test.YtjjfahgdmaikpaaGreatDoorLSolveRing1
import Derived.Test.YtjjfahgdmaikpaaGreatDoorLSolveRing2
import Derived.Test.YtjjfahgdmaikpaaGreatDoorLSolveRing3
import Derived.Test.YtjjfahgdmaikpaaGreatDoorLSolveRing4
import Derived.Test.YtjjfahgdmaikpaaGreatDoorLSolveRing5
import Derived.Test.YtjjfahgdmaikpaaGreatDoorLSolveRing6
import Derived.Test.YtjjfahgdmaikpaaGreatDoorLSolveRing7
import Derived.Test.YtjjfahgdmaikpaaGreatDoorLSolveRing8
import Derived.Test.YtjjfahgdmaikpaaGreatDoorLSolveRing9
namespace Go.Proofs.YtjjfahgdmaikpaaGreatDoor
open Go Go.RowKit Ev
set_option maxRecDepth 100000
set_option linter.unusedVariables false
theorem SolveRing_z1 : ∀ m : Int, Ok18 7 [ai (Int.ofNat 1), ai m]
  | .negSucc j => SolveRing_z1_neg j
  | .ofNat 0 => SolveRing_z1_0
  | .ofNat 1 => SolveRing_z1_1
  | .ofNat (j + 2) => SolveRing_z1_big j
theorem SolveRing_z2 : ∀ m : Int, Ok18 7 [ai (Int.ofNat 2), ai m]
  | .negSucc j => SolveRing_z2_neg j
  | .ofNat 0 => SolveRing_z2_0
  | .ofNat 1 => SolveRing_z2_1
  | .ofNat 2 => SolveRing_z2_2
  | .ofNat (j + 3) => SolveRing_z2_big j
theorem SolveRing_z3 : ∀ m : Int, Ok18 7 [ai (Int.ofNat 3), ai m]
  | .negSucc j => SolveRing_z3_neg j
  | .ofNat 0 => SolveRing_z3_0
  | .ofNat 1 => SolveRing_z3_1
  | .ofNat 2 => SolveRing_z3_2
  | .ofNat 3 => SolveRing_z3_3
  | .ofNat (j + 4) => SolveRing_z3_big j
theorem SolveRing_z4 : ∀ m : Int, Ok18 7 [ai (Int.ofNat 4), ai m]
  | .negSucc j => SolveRing_z4_neg j
  | .ofNat 0 => SolveRing_z4_0
  | .ofNat 1 => SolveRing_z4_1
  | .ofNat 2 => SolveRing_z4_2
  | .ofNat 3 => SolveRing_z4_3
  | .ofNat 4 => SolveRing_z4_4
  | .ofNat (j + 5) => SolveRing_z4_big j
theorem SolveRing_z5 : ∀ m : Int, Ok18 7 [ai (Int.ofNat 5), ai m]
  | .negSucc j => SolveRing_z5_neg j
  | .ofNat 0 => SolveRing_z5_0
  | .ofNat 1 => SolveRing_z5_1
  | .ofNat 2 => SolveRing_z5_2
  | .ofNat 3 => SolveRing_z5_3
  | .ofNat 4 => SolveRing_z5_4
  | .ofNat 5 => SolveRing_z5_5
  | .ofNat (j + 6) => SolveRing_z5_big j
theorem SolveRing_z6 : ∀ m : Int, Ok18 7 [ai (Int.ofNat 6), ai m]
  | .negSucc j => SolveRing_z6_neg j
  | .ofNat 0 => SolveRing_z6_0
  | .ofNat 1 => SolveRing_z6_1
  | .ofNat 2 => SolveRing_z6_2
  | .ofNat 3 => SolveRing_z6_3
  | .ofNat 4 => SolveRing_z6_4
  | .ofNat 5 => SolveRing_z6_5
  | .ofNat 6 => SolveRing_z6_6
  | .ofNat (j + 7) => SolveRing_z6_big j
theorem SolveRing_z7 : ∀ m : Int, Ok18 7 [ai (Int.ofNat 7), ai m]
  | .negSucc j => SolveRing_z7_neg j
  | .ofNat 0 => SolveRing_z7_0
  | .ofNat 1 => SolveRing_z7_1
  | .ofNat 2 => SolveRing_z7_2
  | .ofNat 3 => SolveRing_z7_3
  | .ofNat 4 => SolveRing_z7_4
  | .ofNat 5 => SolveRing_z7_5
  | .ofNat 6 => SolveRing_z7_6
  | .ofNat 7 => SolveRing_z7_7
  | .ofNat (j + 8) => SolveRing_z7_big j
theorem SolveRing_z8 : ∀ m : Int, Ok18 7 [ai (Int.ofNat 8), ai m]
  | .negSucc j => SolveRing_z8_neg j
  | .ofNat 0 => SolveRing_z8_0
  | .ofNat 1 => SolveRing_z8_1
  | .ofNat 2 => SolveRing_z8_2
  | .ofNat 3 => SolveRing_z8_3
  | .ofNat 4 => SolveRing_z8_4
  | .ofNat 5 => SolveRing_z8_5
  | .ofNat 6 => SolveRing_z8_6
  | .ofNat 7 => SolveRing_z8_7
  | .ofNat 8 => SolveRing_z8_8
  | .ofNat (j + 9) => SolveRing_z8_big j
theorem SolveRing_z9 : ∀ m : Int, Ok18 7 [ai (Int.ofNat 9), ai m]
  | .negSucc j => SolveRing_z9_neg j
  | .ofNat 0 => SolveRing_z9_0
  | .ofNat 1 => SolveRing_z9_1
  | .ofNat 2 => SolveRing_z9_2
  | .ofNat 3 => SolveRing_z9_3
  | .ofNat 4 => SolveRing_z9_4
  | .ofNat 5 => SolveRing_z9_5
  | .ofNat 6 => SolveRing_z9_6
  | .ofNat 7 => SolveRing_z9_7
  | .ofNat 8 => SolveRing_z9_8
  | .ofNat 9 => SolveRing_z9_9
  | .ofNat (j + 10) => SolveRing_z9_big j
theorem SolveRing_z10 : ∀ m : Int, Ok18 7 [ai (Int.ofNat 10), ai m]
  | .negSucc j => SolveRing_z10_neg j
  | .ofNat 0 => SolveRing_z10_0
  | .ofNat 1 => SolveRing_z10_1
  | .ofNat 2 => SolveRing_z10_2
  | .ofNat 3 => SolveRing_z10_3
  | .ofNat 4 => SolveRing_z10_4
  | .ofNat 5 => SolveRing_z10_5
  | .ofNat 6 => SolveRing_z10_6
  | .ofNat 7 => SolveRing_z10_7
  | .ofNat 8 => SolveRing_z10_8
  | .ofNat 9 => SolveRing_z10_9
  | .ofNat 10 => SolveRing_z10_10
  | .ofNat (j + 11) => SolveRing_z10_big j
theorem SolveRing_z11 : ∀ m : Int, Ok18 7 [ai (Int.ofNat 11), ai m]
  | .negSucc j => SolveRing_z11_neg j
  | .ofNat 0 => SolveRing_z11_0
  | .ofNat 1 => SolveRing_z11_1
  | .ofNat 2 => SolveRing_z11_2
  | .ofNat 3 => SolveRing_z11_3
  | .ofNat 4 => SolveRing_z11_4
  | .ofNat 5 => SolveRing_z11_5
  | .ofNat 6 => SolveRing_z11_6
  | .ofNat 7 => SolveRing_z11_7
  | .ofNat 8 => SolveRing_z11_8
  | .ofNat 9 => SolveRing_z11_9
  | .ofNat 10 => SolveRing_z11_10
  | .ofNat 11 => SolveRing_z11_11
  | .ofNat (j + 12) => SolveRing_z11_big j
theorem SolveRing_z12 : ∀ m : Int, Ok18 7 [ai (Int.ofNat 12), ai m]
  | .negSucc j => SolveRing_z12_neg j
  | .ofNat 0 => SolveRing_z12_0
  | .ofNat 1 => SolveRing_z12_1
  | .ofNat 2 => SolveRing_z12_2
  | .ofNat 3 => SolveRing_z12_3
  | .ofNat 4 => SolveRing_z12_4
  | .ofNat 5 => SolveRing_z12_5
  | .ofNat 6 => SolveRing_z12_6
  | .ofNat 7 => SolveRing_z12_7
  | .ofNat 8 => SolveRing_z12_8
  | .ofNat 9 => SolveRing_z12_9
  | .ofNat 10 => SolveRing_z12_10
  | .ofNat 11 => SolveRing_z12_11
  | .ofNat 12 => SolveRing_z12_12
  | .ofNat (j + 13) => SolveRing_z12_big j
theorem solveRing_ev : ∀ n m : Int, Ok18 7 [ai n, ai m]
  | .negSucc k, m => SolveRing_neg k m
  | .ofNat 0, m => SolveRing_z0 m
  | .ofNat 1, m => SolveRing_z1 m
  | .ofNat 2, m => SolveRing_z2 m
  | .ofNat 3, m => SolveRing_z3 m
  | .ofNat 4, m => SolveRing_z4 m
  | .ofNat 5, m => SolveRing_z5 m
  | .ofNat 6, m => SolveRing_z6 m
  | .ofNat 7, m => SolveRing_z7 m
  | .ofNat 8, m => SolveRing_z8 m
  | .ofNat 9, m => SolveRing_z9 m
  | .ofNat 10, m => SolveRing_z10 m
  | .ofNat 11, m => SolveRing_z11 m
  | .ofNat 12, m => SolveRing_z12 m
  | .ofNat (k + 13), m => SolveRing_big k m
theorem solveRing_true (w : World) (hT : Tab w) (n m : Int) : Calls Tryz.prog 7 #[.int .i64 n, .int .i64 m] w fun e w' => Below w.heap.size w w' ∧ e = .returned (.bool true) :=
  law18 (solveRing_ev n m) (by exact ⟨rfl, rfl, trivial⟩) w hT
end Go.Proofs.YtjjfahgdmaikpaaGreatDoor
