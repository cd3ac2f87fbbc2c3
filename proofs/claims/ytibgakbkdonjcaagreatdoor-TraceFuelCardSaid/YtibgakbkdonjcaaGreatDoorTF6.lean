/- TraceFuel: the statement's own function gives true. -/
import Derived.Test.YtibgakbkdonjcaaGreatDoorTF5
namespace Go.Proofs.YtibgakbkdonjcaaGreatDoor
open Go.RowKit Go.Maps Go.ChangeMaps Go.MapKept Ev
set_option linter.unusedVariables false
set_option maxRecDepth 100000

theorem clamp (fuel : Int) : ∃ (X : Int) (F : Nat), F ≤ 3000 ∧ (if fuel < 0 then (0 : Int) else fuel) = X ∧ (if (3000 : Int) < X then (3000 : Int) else X) = (F : Int) := by
  refine ⟨_, (if (3000 : Int) < (if fuel < 0 then (0 : Int) else fuel) then (3000 : Int) else (if fuel < 0 then (0 : Int) else fuel)).toNat, ?_, rfl, ?_⟩
  · split <;> (try split) <;> omega
  · split <;> (try split) <;> omega

theorem traceFuel_true (w : World) (fuel : Int) : Calls Tryz.prog 7 #[.int .i64 fuel] w fun e w' => Below w.heap.size w w' ∧ e = .returned (.bool true) := by
  obtain ⟨X, F, hF, h1, h2⟩ := clamp fuel
  have H1 := Lib.hid h1; have H2 := Lib.hid h2; have HF := Lib.hid hF
  clear h1 h2 hF
  go_enter Tryz.func7, Tryz.ntmps7
  go_wp2_with fail
  refine (begun15_true _).mono ?_
  rintro e w1 ⟨B, rfl⟩
  have HB := Lib.hid B
  clear B
  obtain ⟨φ, G, h5⟩ := laidP (w1 := w1)
  obtain ⟨W, hW⟩ : ∃ W, ((((((w1.alloc (.cells #[.slice none 0 0, .int .i64 0, .int .i64 0] 63)).alloc (.cells #[.int .i64 0, .int .i64 0] 61)).alloc
      (.cells #[.int .i64 1, .int .i64 0, .int .i64 0, .int .i64 0, .int .i64 1, .slice none 0 0] 67)).alloc
      (.cells #[.slice (some ⟨w1.heap.size + 1 + 1, 0, none⟩) 1 1, .int .i64 2, .int .i64 0, .int .i64 0, .int .i64 1, .slice none 0 0, .int .i64 3, .int .i64 0, .int .i64 0, .int .i64 0] 70)).alloc
      (.cells #[.int .i64 0, .slice (some ⟨w1.heap.size + 1, 0, none⟩) 1 1, .slice (some ⟨w1.heap.size + 1 + 1 + 1, 0, none⟩) 2 2] 73)).alloc
      (.cells #[.slice none 0 0, .slice (some ⟨w1.heap.size, 0, none⟩) 1 1, .slice none 0 0, .slice none 0 0, .slice (some ⟨w1.heap.size + 1 + 1 + 1 + 1, 0, none⟩) 1 1, .int .i64 0] 79)) = W := ⟨_, rfl⟩
  rw [hW] at G
  have BW : Below w1.heap.size w1 W := by
    rw [← hW]
    refine Below.alloc (Below.alloc (Below.alloc (Below.alloc (Below.alloc (Below.alloc (Below.refl _ _) ?_ _) ?_ _) ?_ _) ?_ _) ?_ _) ?_ _ <;> (try simp only [alloc_size]) <;> omega
  have HG := Lib.hid G; have H5 := Lib.hid h5; have HW := Lib.hid hW; have HBW := Lib.hid BW
  clear G h5 hW BW
  go_wp2_with fail
  rw [HW.out]
  refine (run_true HG.out H5.out fuel F X HF.out H1.out H2.out).mono ?_
  rintro e w2 ⟨G2, B2, rfl⟩
  have HG2 := Lib.hid G2; have HB2 := Lib.hid B2
  clear G2 B2
  go_wp2_with fail
  refine (fuel_of _ fuel X F H1.out H2.out).mono ?_
  rintro e w3 ⟨rfl, rfl⟩
  go_wp2_with fail
  refine (alarms_true fuel X F HG2.out H5.out HF.out H1.out H2.out).mono ?_
  rintro e w4 ⟨G4, B4, rfl⟩
  have HG4 := Lib.hid G4; have HB4 := Lib.hid B4
  clear G4 B4
  go_wp2_with fail
  refine (calls_true fuel X F HG4.out H5.out HF.out H1.out H2.out).mono ?_
  rintro e w5 ⟨G5, B5, rfl⟩
  have HB5 := Lib.hid B5
  clear G5 B5
  go_wp2_with fail
  go_ret
  have b1 := HBW.out.trans (HB2.out.trans (HB4.out.trans HB5.out))
  exact ⟨HB.out.trans (b1.mono HB.out.size), rfl⟩
end Go.Proofs.YtibgakbkdonjcaaGreatDoor
