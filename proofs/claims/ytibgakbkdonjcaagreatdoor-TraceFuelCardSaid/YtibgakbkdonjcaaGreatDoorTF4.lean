/- TraceFuel: trace.Run over the program that goes on and on. -/
import Derived.Test.YtibgakbkdonjcaaGreatDoorTF3
namespace Go.Proofs.YtibgakbkdonjcaaGreatDoor
open Go.RowKit Go.Maps Go.ChangeMaps Go.MapKept Ev
set_option linter.unusedVariables false
set_option maxRecDepth 100000

theorem new_c {B : Nat} {φ : Mp} {w : World} {q5 : Nat × Nat} (G : Ev.Good B φ sP w) (h5 : φ 5 = some q5) : Calls Tryz.prog 25 #[.pointer (some ⟨q5.1, 0, none⟩), .slice none 0 0] w fun e w' =>
    ∃ φ' q, Ev.Good B φ' sM w' ∧ φ' mId = some q ∧ (∀ k, k < sP.n → φ' k = φ k) ∧ Below B w w' ∧ e = .returned (.pointer (some ⟨q.1, 0, none⟩)) := by
  have hk := rM_ok
  rw [Bool.and_eq_true] at hk
  have h4 := some_of (s := sP) hk.1
  refine (go (f := 25) (l := [pv 5, .v (.c .snil)]) h4 G (args := #[.pointer (some ⟨q5.1, 0, none⟩), .slice none 0 0]) (by exact ⟨⟨q5, h5, rfl⟩, rfl, trivial⟩)).mono ?_
  rintro e w' ⟨φ', u, g1, g2, g3, rfl, g4⟩
  obtain ⟨q, h6, rfl⟩ := ptrIs_val hk.2 g3
  exact ⟨φ', q, g1, h6, g4, g2, rfl⟩

theorem results_tmp3 {fn : Func} {t u v : Tmp} (h : fn.results = #[.tmp t, .tmp u, .tmp v]) (tmps : Array Value) (P : Program) (w : World) :
    (results fn tmps).run P w = .ok (.tuple #[tmps.getD t undef, tmps.getD u undef, tmps.getD v undef]) w := by
  simp [results, h]

def RInv (B : Nat) (φ : Mp) (q : Nat × Nat) (F : Nat) (w : World) (iv : Value) (wr : World) : Prop :=
  ∃ (k : Nat) (φ' : Mp) (s : StK), iv = .int .i64 k ∧ k ≤ F ∧ St3 s ∧ Ev.Good B φ' s wr ∧ φ' mId = some q ∧ (∀ j, j < sP.n → φ' j = φ j) ∧ Below B w wr

theorem run_true {B : Nat} {φ : Mp} {w : World} {q5 : Nat × Nat} (G : Ev.Good B φ sP w) (h5 : φ 5 = some q5) (fuel : Int) (F : Nat) (X : Int) (hF : F ≤ 3000) (h1 : (if fuel < 0 then (0 : Int) else fuel) = X) (h2 : (if (3000 : Int) < X then (3000 : Int) else X) = (F : Int)) :
    Calls Tryz.prog 11 #[.pointer (some ⟨q5.1, 0, none⟩), .slice none 0 0, .int .i64 fuel] w fun e w' =>
      Ev.Good B φ sP w' ∧ Below B w w' ∧ e = .returned (.tuple #[.slice none 0 0, .int .i64 F, .int .i64 5]) := by
  have HG := Lib.hid G
  have H5 := Lib.hid h5
  have H1 := Lib.hid h1
  have H2 := Lib.hid h2
  clear G h5
  go_enter Tryz.func11, Tryz.ntmps11
  go_wp2_with fail
  refine (new_c HG.out H5.out).mono ?_
  rintro e w1 ⟨φ1, q, G1, hq, hk, B1, rfl⟩
  have HG1 := Lib.hid G1
  have HQ := Lib.hid hq
  have HK := Lib.hid hk
  have HB1 := Lib.hid B1
  clear G1 hq hk B1
  go_wp2_with fail
  go_loopw [10, 23] (fun lv iv wr => lv = Value.slice none 0 0 ∧ RInv B φ q F w iv wr) (fun _ iv _ => F - (intOf iv).toNat)
  case atStart => exact ⟨rfl, 0, φ1, sM, rfl, Nat.zero_le _, .inl rfl, HG1.out, HQ.out, HK.out, HB1.out⟩
  case round =>
    obtain ⟨rfl, k, φ2, s, rfl, hk, hs, G2, hq2, hk2, B2⟩ := id hrel
    have HS := Lib.hid hs; have HG2 := Lib.hid G2; have HQ2 := Lib.hid hq2; have HK2 := Lib.hid hk2; have HB2 := Lib.hid B2
    clear hrel hs G2 hq2 hk2 B2
    by_cases hlt : k < F
    · go_wp2_with fail
      refine (at_c HS.out HG2.out HQ2.out).mono ?_
      rintro e w3 ⟨n3, G3, B3, rfl⟩
      have HG3 := Lib.hid G3; have HB3 := Lib.hid B3
      clear G3 B3
      go_wp2_with fail
      refine (heap_c HS.out HG3.out HQ2.out).mono ?_
      rintro e w4 ⟨q4, h4, G4, B4, rfl⟩
      have HG4 := Lib.hid G4; have HB4 := Lib.hid B4; have H4 := Lib.hid h4
      clear G4 B4 h4
      go_wp2_with fail
      refine (len_c HS.out HG4.out H4.out).mono ?_
      rintro e w5 ⟨G5, B5, rfl⟩
      have HG5 := Lib.hid G5; have HB5 := Lib.hid B5
      clear G5 B5
      go_wp2_with fail
      refine (step_c HS.out HG5.out HQ2.out).mono ?_
      rintro e w6 ⟨φ6, s6, hs6, G6, hq6, hk6, B6, rfl⟩
      have HK6 := Lib.hid hk6
      clear hk6
      have HG6 := Lib.hid G6; have HB6 := Lib.hid B6; have HS6 := Lib.hid hs6; have HQ6 := Lib.hid hq6
      clear G6 B6 hs6 hq6
      go_wp2_with fail
      refine (called_c HS6.out HG6.out HQ6.out).mono ?_
      rintro e w7 ⟨G7, B7, rfl⟩
      have HG7 := Lib.hid G7; have HB7 := Lib.hid B7
      clear G7 B7
      go_wp2_with fail
      refine (sunk_c HS6.out HG7.out HQ6.out).mono ?_
      rintro e w8 ⟨G8, B8, rfl⟩
      have HG8 := Lib.hid G8; have HB8 := Lib.hid B8
      clear G8 B8
      go_wp2_with fail
      refine (heap_c HS6.out HG8.out HQ6.out).mono ?_
      rintro e w9 ⟨q9, h9, G9, B9, rfl⟩
      have HG9 := Lib.hid G9; have HB9 := Lib.hid B9; have H9 := Lib.hid h9
      clear G9 B9 h9
      go_wp2_with fail
      refine (len_c HS6.out HG9.out H9.out).mono ?_
      rintro e wa ⟨Ga, Ba, rfl⟩
      have HGa := Lib.hid Ga; have HBa := Lib.hid Ba
      clear Ga Ba
      go_wp2_with fail
      go_roundw
      case measure => simp [intOf]; omega
      case rel =>
        refine ⟨rfl, k + 1, φ6, s6, rfl, hlt, HS6.out, HGa.out, HQ6.out, ?_, ?_⟩
        · exact fun j hj => (HK6.out j (Nat.lt_of_lt_of_le hj sPM)).trans (HK2.out j hj)
        · exact HB2.out.trans (HB3.out.trans (HB4.out.trans (HB5.out.trans (HB6.out.trans (HB7.out.trans (HB8.out.trans (HB9.out.trans HBa.out)))))))
    · obtain rfl : k = F := by omega
      go_wp2_with fail
      refine bodyPost_ret (results_tmp3 rfl _ _ _) rfl ⟨?_, HB2.out, rfl⟩
      have hb : backOk sP s = true := by
        have := back_P
        simp only [Bool.and_eq_true] at this
        rcases HS.out with rfl | rfl | rfl
        · exact this.1
        · exact this.2.1
        · exact this.2.2
      have hg := HG2.out.back hb sP_top
      have hc : cut φ2 sP.n = φ := by
        funext j
        unfold cut
        split
        · rename_i hj; exact HK2.out j hj
        · rename_i hj; exact (HG.out.rel.fresh j (by have : (absS sP).n = sP.n := rfl; omega)).symm
      rw [hc] at hg
      exact hg
end Go.Proofs.YtibgakbkdonjcaaGreatDoor
