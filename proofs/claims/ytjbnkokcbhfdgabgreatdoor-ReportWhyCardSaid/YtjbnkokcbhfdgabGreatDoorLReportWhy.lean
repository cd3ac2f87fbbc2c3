/- ReportWhy gives true. -/
import Derived.Test.YtjbnkokcbhfdgabGreatDoorLb27
import Derived.Test.YtjbnkokcbhfdgabGreatDoorXvL4
namespace Go.Proofs.YtjbnkokcbhfdgabGreatDoor
open Go Go.RowKit Ev
set_option maxRecDepth 100000
set_option linter.unusedVariables false
abbrev mx (r : Int) : AV := .v (.c (.md 7 r true))
theorem why_p0 : isBool true (runW hk27 5 [mx (Int.ofNat 0)] s0) = true := by kernel_rfl
theorem why_p1 : isBool true (runW hk27 5 [mx (Int.ofNat 1)] s0) = true := by kernel_rfl
theorem why_p2 : isBool true (runW hk27 5 [mx (Int.ofNat 2)] s0) = true := by kernel_rfl
theorem why_p3 : isBool true (runW hk27 5 [mx (Int.ofNat 3)] s0) = true := by kernel_rfl
theorem why_p4 : isBool true (runW hk27 5 [mx (Int.ofNat 4)] s0) = true := by kernel_rfl
theorem why_p5 : isBool true (runW hk27 5 [mx (Int.ofNat 5)] s0) = true := by kernel_rfl
theorem why_p6 : isBool true (runW hk27 5 [mx (Int.ofNat 6)] s0) = true := by kernel_rfl
theorem why_n1 : isBool true (runW hk27 5 [mx (Int.negSucc 0)] s0) = true := by kernel_rfl
theorem why_n2 : isBool true (runW hk27 5 [mx (Int.negSucc 1)] s0) = true := by kernel_rfl
theorem why_n3 : isBool true (runW hk27 5 [mx (Int.negSucc 2)] s0) = true := by kernel_rfl
theorem why_n4 : isBool true (runW hk27 5 [mx (Int.negSucc 3)] s0) = true := by kernel_rfl
theorem why_n5 : isBool true (runW hk27 5 [mx (Int.negSucc 4)] s0) = true := by kernel_rfl
theorem why_n6 : isBool true (runW hk27 5 [mx (Int.negSucc 5)] s0) = true := by kernel_rfl
theorem reportWhy_true (w : World) (h : laidMetH Tryz.prog laidL4 w) (n : Int) : Calls Tryz.prog 5 #[.int .i64 n] w fun e w' => Below w.heap.size w w' ∧ e = .returned (.bool true) := by
  have hm : VA (fun _ => none) (mx (n.tmod 7)) (.int .i64 n) := ⟨n, rfl, rfl⟩
  have h1 : n.tmod 7 < 7 := Int.tmod_lt_of_pos n (by decide)
  have h2 : -7 < n.tmod 7 := by
    have := Int.tmod_lt_of_pos (-n) (b := 7) (by decide)
    rw [Int.neg_tmod] at this
    omega
  generalize n.tmod 7 = r at hm h1 h2
  match r, hm, h1, h2 with
  | .ofNat 0, hm, _, _ => exact law27 why_p0 (by exact ⟨hm, trivial⟩) w (tab_of_laid4 h) (han_of_laid4 h)
  | .ofNat 1, hm, _, _ => exact law27 why_p1 (by exact ⟨hm, trivial⟩) w (tab_of_laid4 h) (han_of_laid4 h)
  | .ofNat 2, hm, _, _ => exact law27 why_p2 (by exact ⟨hm, trivial⟩) w (tab_of_laid4 h) (han_of_laid4 h)
  | .ofNat 3, hm, _, _ => exact law27 why_p3 (by exact ⟨hm, trivial⟩) w (tab_of_laid4 h) (han_of_laid4 h)
  | .ofNat 4, hm, _, _ => exact law27 why_p4 (by exact ⟨hm, trivial⟩) w (tab_of_laid4 h) (han_of_laid4 h)
  | .ofNat 5, hm, _, _ => exact law27 why_p5 (by exact ⟨hm, trivial⟩) w (tab_of_laid4 h) (han_of_laid4 h)
  | .ofNat 6, hm, _, _ => exact law27 why_p6 (by exact ⟨hm, trivial⟩) w (tab_of_laid4 h) (han_of_laid4 h)
  | .negSucc 0, hm, _, _ => exact law27 why_n1 (by exact ⟨hm, trivial⟩) w (tab_of_laid4 h) (han_of_laid4 h)
  | .negSucc 1, hm, _, _ => exact law27 why_n2 (by exact ⟨hm, trivial⟩) w (tab_of_laid4 h) (han_of_laid4 h)
  | .negSucc 2, hm, _, _ => exact law27 why_n3 (by exact ⟨hm, trivial⟩) w (tab_of_laid4 h) (han_of_laid4 h)
  | .negSucc 3, hm, _, _ => exact law27 why_n4 (by exact ⟨hm, trivial⟩) w (tab_of_laid4 h) (han_of_laid4 h)
  | .negSucc 4, hm, _, _ => exact law27 why_n5 (by exact ⟨hm, trivial⟩) w (tab_of_laid4 h) (han_of_laid4 h)
  | .negSucc 5, hm, _, _ => exact law27 why_n6 (by exact ⟨hm, trivial⟩) w (tab_of_laid4 h) (han_of_laid4 h)
  | .ofNat (k + 7), _, h1, _ => exact absurd h1 (by simp only [Int.ofNat_eq_natCast]; omega)
  | .negSucc (k + 6), _, _, h2 => exact absurd h2 (by rw [Int.negSucc_eq]; omega)
end Go.Proofs.YtjbnkokcbhfdgabGreatDoor
