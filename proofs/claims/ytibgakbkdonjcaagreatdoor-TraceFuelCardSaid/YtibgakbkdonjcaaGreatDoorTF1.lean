/- TraceFuel: the program that goes on and on: as the evaluator has it, and its machine's states. -/
import Derived.Test.YtibgakbkdonjcaaGreatDoorBase
import Derived.Test.YtibgakbkdonjcaaGreatDoorEvH
namespace Go.Proofs.YtibgakbkdonjcaaGreatDoor
open Go.RowKit Go.Maps Go.ChangeMaps Go.MapKept Ev
set_option linter.unusedVariables false
set_option maxRecDepth 100000

theorem begun15_true (w : World) : Calls Tryz.prog 8 #[] w fun e w' => Below w.heap.size w w' ∧ e = .returned (.bool true) :=
  Ev.bool_calls (l := []) (by kernel_rfl) (by exact trivial) w

def sNext (s : StK) (b : BK) : Option (Nat × StK) → StK
  | some (_, s') => s'
  | none => s
def stOf (s : StK) : Option (AV × StK) → StK
  | some (_, s') => s'
  | none => s
def vOf : Option (AV × StK) → AV
  | some (v, _) => v
  | none => .tup []
theorem some_of {s : StK} {x : Option (AV × StK)} (h : x.isSome = true) : x = some (vOf x, stOf s x) := by
  cases x with
  | none => cases h
  | some p => rfl

abbrev ci (n : Int) : CV := .int .i64 n
def bp0 : BK := ⟨[.snil, ci 0, ci 0], 63, 0⟩
def bp1 : BK := ⟨[ci 0, ci 0], 61, 0⟩
def bp2 : BK := ⟨[ci 1, ci 0, ci 0, ci 0, ci 1, .snil], 67, 0⟩
def bp3 : BK := ⟨[.slice 2 0 1 (.fix 1), ci 2, ci 0, ci 0, ci 1, .snil, ci 3, ci 0, ci 0, ci 0], 70, 0⟩
def bp4 : BK := ⟨[ci 0, .slice 1 0 1 (.fix 1), .slice 3 0 2 (.fix 2)], 73, 0⟩
def bp5 : BK := ⟨[.snil, .slice 0 0 1 (.fix 1), .snil, .snil, .slice 4 0 1 (.fix 1), ci 0], 79, 0⟩
noncomputable def p1 : StK := sNext s0 bp0 (newK s0 bp0)
noncomputable def p2 : StK := sNext p1 bp1 (newK p1 bp1)
noncomputable def p3 : StK := sNext p2 bp2 (newK p2 bp2)
noncomputable def p4 : StK := sNext p3 bp3 (newK p3 bp3)
noncomputable def p5 : StK := sNext p4 bp4 (newK p4 bp4)
noncomputable def sP : StK := sNext p5 bp5 (newK p5 bp5)
theorem np0 : newK s0 bp0 = some (0, p1) := by kernel_rfl
theorem np1 : newK p1 bp1 = some (1, p2) := by kernel_rfl
theorem np2 : newK p2 bp2 = some (2, p3) := by kernel_rfl
theorem np3 : newK p3 bp3 = some (3, p4) := by kernel_rfl
theorem np4 : newK p4 bp4 = some (4, p5) := by kernel_rfl
theorem np5 : newK p5 bp5 = some (5, sP) := by kernel_rfl

/-- the program stands in the world -/
theorem laidP {w1 : World} : ∃ φ, Ev.Good w1.heap.size φ sP ((((((w1.alloc (.cells #[.slice none 0 0, .int .i64 0, .int .i64 0] 63)).alloc (.cells #[.int .i64 0, .int .i64 0] 61)).alloc
      (.cells #[.int .i64 1, .int .i64 0, .int .i64 0, .int .i64 0, .int .i64 1, .slice none 0 0] 67)).alloc
      (.cells #[.slice (some ⟨w1.heap.size + 1 + 1, 0, none⟩) 1 1, .int .i64 2, .int .i64 0, .int .i64 0, .int .i64 1, .slice none 0 0, .int .i64 3, .int .i64 0, .int .i64 0, .int .i64 0] 70)).alloc
      (.cells #[.int .i64 0, .slice (some ⟨w1.heap.size + 1, 0, none⟩) 1 1, .slice (some ⟨w1.heap.size + 1 + 1 + 1, 0, none⟩) 2 2] 73)).alloc
      (.cells #[.slice none 0 0, .slice (some ⟨w1.heap.size, 0, none⟩) 1 1, .slice none 0 0, .slice none 0 0, .slice (some ⟨w1.heap.size + 1 + 1 + 1 + 1, 0, none⟩) 1 1, .int .i64 0] 79)) ∧
      φ 5 = some (w1.heap.size + 1 + 1 + 1 + 1 + 1, 0) := by
  obtain ⟨φ1, G1, a1, _⟩ := (good0 w1).new np0 (us := [.slice none 0 0, .int .i64 0, .int .i64 0]) ⟨rfl, rfl, rfl, trivial⟩
  obtain ⟨φ2, G2, a2, k2⟩ := G1.new np1 (us := [.int .i64 0, .int .i64 0]) ⟨rfl, rfl, trivial⟩
  have n1 : p1.n = 1 := by kernel_rfl
  have n2 : p2.n = 2 := by kernel_rfl
  have n3 : p3.n = 3 := by kernel_rfl
  have n4 : p4.n = 4 := by kernel_rfl
  have n5 : p5.n = 5 := by kernel_rfl
  have b20 := (k2 0 (by rw [n1]; omega)).trans a1
  obtain ⟨φ3, G3, a3, k3⟩ := G2.new np2 (us := [.int .i64 1, .int .i64 0, .int .i64 0, .int .i64 0, .int .i64 1, .slice none 0 0]) ⟨rfl, rfl, rfl, rfl, rfl, rfl, trivial⟩
  have b30 := (k3 0 (by rw [n2]; omega)).trans b20
  have b31 := (k3 1 (by rw [n2]; omega)).trans a2
  simp only [alloc_size] at a3 b31
  obtain ⟨φ4, G4, a4, k4⟩ := G3.new np3 (us := [.slice (some ⟨w1.heap.size + 1 + 1, 0, none⟩) 1 1, .int .i64 2, .int .i64 0, .int .i64 0, .int .i64 1, .slice none 0 0, .int .i64 3, .int .i64 0, .int .i64 0, .int .i64 0])
    ⟨⟨_, a3, rfl⟩, rfl, rfl, rfl, rfl, rfl, rfl, rfl, rfl, rfl, trivial⟩
  have b40 := (k4 0 (by rw [n3]; omega)).trans b30
  have b41 := (k4 1 (by rw [n3]; omega)).trans b31
  simp only [alloc_size] at a4
  obtain ⟨φ5, G5, a5, k5⟩ := G4.new np4 (us := [.int .i64 0, .slice (some ⟨w1.heap.size + 1, 0, none⟩) 1 1, .slice (some ⟨w1.heap.size + 1 + 1 + 1, 0, none⟩) 2 2])
    ⟨rfl, ⟨_, b41, rfl⟩, ⟨_, a4, rfl⟩, trivial⟩
  have b50 := (k5 0 (by rw [n4]; omega)).trans b40
  simp only [alloc_size] at a5
  obtain ⟨φ6, G6, a6, k6⟩ := G5.new np5 (us := [.slice none 0 0, .slice (some ⟨w1.heap.size, 0, none⟩) 1 1, .slice none 0 0, .slice none 0 0, .slice (some ⟨w1.heap.size + 1 + 1 + 1 + 1, 0, none⟩) 1 1, .int .i64 0])
    ⟨rfl, ⟨_, b50, rfl⟩, rfl, rfl, ⟨_, a5, rfl⟩, rfl, trivial⟩
  simp only [alloc_size] at a6
  exact ⟨φ6, G6, a6⟩

/-! the machine's states: new; behind the first instruction; behind the branch -/
abbrev pv (k : Nat) : AV := .v (.c (.ptr k 0))
noncomputable def rM : Option (AV × StK) := run 25 [pv 5, .v (.c .snil)] sP
noncomputable def sM : StK := stOf sP rM
def ptrIs (k : Nat) : AV → Bool
  | .v (.c (.ptr b o)) => Nat.beq b k && Nat.beq o 0
  | _ => false
def intIs (n : Int) : AV → Bool
  | .v (.c (.int k m)) => beqKind k .i64 && ieq m n
  | _ => false
def numOf : AV → Nat
  | .v (.c (.ptr b _)) => b
  | _ => 0
noncomputable def mId : Nat := numOf (vOf rM)
theorem rM_ok : (rM.isSome && ptrIs mId (vOf rM)) = true := by kernel_rfl
end Go.Proofs.YtibgakbkdonjcaaGreatDoor
