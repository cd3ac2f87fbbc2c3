/- TraceFuel: the statement's own function. -/
import Derived.Test.YtibgakbkdonjcaaGreatDoorTF4
namespace Go.Proofs.YtibgakbkdonjcaaGreatDoor
open Go.RowKit Go.Maps Go.ChangeMaps Go.MapKept Ev
set_option linter.unusedVariables false
set_option maxRecDepth 100000

theorem Good.below {B : Nat} {φ : Mp} {s : StK} {w w' : World} (G : Ev.Good B φ s w) (h : Below w.heap.size w w') : Ev.Good B φ s w' :=
  ⟨G.rel.of_same ⟨h.os, h.tape, h.output, h.size, h.block⟩, G.rows, Nat.le_trans G.size h.size⟩

noncomputable def valIs (f : Nat) (l : List AV) (p : AV → Bool) : Bool :=
  match run f l s0 with
  | some (v, _) => p v
  | none => false
/-- a call without a look at memory -/
theorem val_calls {f : Nat} {l : List AV} {p : AV → Bool} (h : valIs f l p = true) {args : Array Value} (ha : VAs (fun _ => none) l args.toList) (w : World) :
    Calls Tryz.prog f args w fun e w' => ∃ v φ u, p v = true ∧ VA φ v u ∧ Below w.heap.size w w' ∧ e = .returned u := by
  unfold valIs at h
  split at h
  · rename_i v s' hr
    refine ((run_ok f l _ _ _ (run_spec hr) _ w args (rel_s0 w) ha).2).mono ?_
    rintro e w' ⟨φ', u, h2, h3, rfl⟩
    exact ⟨v, φ', u, h, h3, Out.below0 h2, rfl⟩
  · cases h
def isU : AV → Bool
  | .tup [] => true
  | _ => false
def isN : AV → Bool
  | .v (.c .snil) => true
  | _ => false
theorem isU_val {φ : Mp} {v : AV} {u : Value} (h : isU v = true) (hv : VA φ v u) : u = .tuple #[] := by
  unfold isU at h
  split at h
  · obtain ⟨vs, h1, rfl⟩ := hv
    cases vs with
    | nil => rfl
    | cons _ _ => exact h1.elim
  · cases h
theorem isN_val {φ : Mp} {v : AV} {u : Value} (h : isN v = true) (hv : VA φ v u) : u = .slice none 0 0 := by
  unfold isN at h
  split at h
  · exact hv
  · cases h

theorem sortA (w : World) : Calls Tryz.prog 37 #[.slice none 0 0, .func (.func 38) #[] #[]] w fun e w' => Below w.heap.size w w' ∧ e = .returned (.tuple #[]) :=
  (val_calls (f := 37) (l := [.v (.c .snil), .v (.c (.func 38 []))]) (p := isU) (by kernel_rfl) (by exact ⟨rfl, ⟨[], trivial, rfl⟩, trivial⟩) w).mono fun e w' ⟨v, φ, u, h1, h2, h3, h4⟩ => ⟨h3, by rw [h4, isU_val h1 h2]⟩
theorem sortE (w : World) : Calls Tryz.prog 42 #[.slice none 0 0, .func (.func 43) #[] #[]] w fun e w' => Below w.heap.size w w' ∧ e = .returned (.tuple #[]) :=
  (val_calls (f := 42) (l := [.v (.c .snil), .v (.c (.func 43 []))]) (p := isU) (by kernel_rfl) (by exact ⟨rfl, ⟨[], trivial, rfl⟩, trivial⟩) w).mono fun e w' ⟨v, φ, u, h1, h2, h3, h4⟩ => ⟨h3, by rw [h4, isU_val h1 h2]⟩
theorem compA (w : World) : Calls Tryz.prog 41 #[.slice none 0 0] w fun e w' => Below w.heap.size w w' ∧ e = .returned (.slice none 0 0) :=
  (val_calls (f := 41) (l := [.v (.c .snil)]) (p := isN) (by kernel_rfl) (by exact ⟨rfl, trivial⟩) w).mono fun e w' ⟨v, φ, u, h1, h2, h3, h4⟩ => ⟨h3, by rw [h4, isN_val h1 h2]⟩
theorem compE (w : World) : Calls Tryz.prog 44 #[.slice none 0 0] w fun e w' => Below w.heap.size w w' ∧ e = .returned (.slice none 0 0) :=
  (val_calls (f := 44) (l := [.v (.c .snil)]) (p := isN) (by kernel_rfl) (by exact ⟨rfl, trivial⟩) w).mono fun e w' ⟨v, φ, u, h1, h2, h3, h4⟩ => ⟨h3, by rw [h4, isN_val h1 h2]⟩

section
variable {B : Nat} {φ : Mp} {w : World} {q5 : Nat × Nat} (fuel X : Int) (F : Nat)
theorem alarms_true (G : Ev.Good B φ sP w) (h5 : φ 5 = some q5) (hF : F ≤ 3000) (h1 : (if fuel < 0 then (0 : Int) else fuel) = X) (h2 : (if (3000 : Int) < X then (3000 : Int) else X) = (F : Int)) :
    Calls Tryz.prog 19 #[.pointer (some ⟨q5.1, 0, none⟩), .slice none 0 0, .int .i64 fuel] w fun e w' => Ev.Good B φ sP w' ∧ Below B w w' ∧ e = .returned (.slice none 0 0) := by
  have HR := Lib.hid (run_true G h5 fuel F X hF h1 h2)
  clear G h5 h1 h2
  go_enter Tryz.func19, Tryz.ntmps19
  go_wp2_with fail
  refine HR.out.mono ?_
  rintro e w1 ⟨G1, B1, rfl⟩
  have HG1 := Lib.hid G1; have HB1 := Lib.hid B1
  clear G1 B1
  go_wp2_with fail
  refine wp_loop_once ?_
  go_wp2_with fail
  refine (sortA _).mono ?_
  rintro e w2 ⟨B2, rfl⟩
  have HB2 := Lib.hid B2
  clear B2
  go_wp2_with fail
  refine (compA _).mono ?_
  rintro e w3 ⟨B3, rfl⟩
  have HB3 := Lib.hid B3
  clear B3
  go_wp2_with fail
  go_ret
  have G2 := Good.below HG1.out HB2.out
  have G3 := Good.below G2 HB3.out
  exact ⟨G3, HB1.out.trans ((HB2.out.mono HG1.out.size).trans (HB3.out.mono G2.size)), rfl⟩
theorem calls_true (G : Ev.Good B φ sP w) (h5 : φ 5 = some q5) (hF : F ≤ 3000) (h1 : (if fuel < 0 then (0 : Int) else fuel) = X) (h2 : (if (3000 : Int) < X then (3000 : Int) else X) = (F : Int)) :
    Calls Tryz.prog 20 #[.pointer (some ⟨q5.1, 0, none⟩), .slice none 0 0, .int .i64 fuel] w fun e w' => Ev.Good B φ sP w' ∧ Below B w w' ∧ e = .returned (.slice none 0 0) := by
  have HR := Lib.hid (run_true G h5 fuel F X hF h1 h2)
  clear G h5 h1 h2
  go_enter Tryz.func20, Tryz.ntmps20
  go_wp2_with fail
  refine HR.out.mono ?_
  rintro e w1 ⟨G1, B1, rfl⟩
  have HG1 := Lib.hid G1; have HB1 := Lib.hid B1
  clear G1 B1
  go_wp2_with fail
  refine wp_loop_once ?_
  go_wp2_with fail
  refine (sortE _).mono ?_
  rintro e w2 ⟨B2, rfl⟩
  have HB2 := Lib.hid B2
  clear B2
  go_wp2_with fail
  refine (compE _).mono ?_
  rintro e w3 ⟨B3, rfl⟩
  have HB3 := Lib.hid B3
  clear B3
  go_wp2_with fail
  go_ret
  have G2 := Good.below HG1.out HB2.out
  have G3 := Good.below G2 HB3.out
  exact ⟨G3, HB1.out.trans ((HB2.out.mono HG1.out.size).trans (HB3.out.mono G2.size)), rfl⟩
end

theorem fuel_of (w : World) (fuel X : Int) (F : Nat) (h1 : (if fuel < 0 then (0 : Int) else fuel) = X) (h2 : (if (3000 : Int) < X then (3000 : Int) else X) = (F : Int)) :
    Calls Tryz.prog 16 #[.int .i64 fuel] w fun e w' => w = w' ∧ e = .returned (.int .i64 F) := by
  by_cases ha : fuel < 0
  · rw [if_pos ha] at h1
    subst h1
    rw [if_neg (by decide)] at h2
    have hd : decide (fuel < 0) = true := decide_eq_true ha
    have H2 := Lib.hid h2
    clear h2 ha
    go_enter Tryz.func16, Tryz.ntmps16
    go_wp2_with fail
    go_ret
    exact ⟨rfl, by rw [← H2.out]; rfl⟩
  · rw [if_neg ha] at h1
    subst h1
    by_cases hb : (3000 : Int) < fuel
    · rw [if_pos hb] at h2
      have hd : decide (fuel < 0) = false := decide_eq_false ha
      have hd2 : decide ((3000 : Int) < fuel) = true := decide_eq_true hb
      have H2 := Lib.hid h2
      clear h2 ha hb
      go_enter Tryz.func16, Tryz.ntmps16
      go_wp2_with fail
      go_ret
      exact ⟨rfl, by rw [← H2.out]; rfl⟩
    · rw [if_neg hb] at h2
      have hd : decide (fuel < 0) = false := decide_eq_false ha
      have hd2 : decide ((3000 : Int) < fuel) = false := decide_eq_false hb
      have H2 := Lib.hid h2
      clear h2 ha hb
      go_enter Tryz.func16, Tryz.ntmps16
      go_wp2_with fail
      go_ret
      exact ⟨rfl, by rw [← H2.out]; rfl⟩
end Go.Proofs.YtibgakbkdonjcaaGreatDoor
