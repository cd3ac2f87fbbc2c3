/- TraceFuel: a run of the program that goes on and on. -/
import Derived.Test.YtibgakbkdonjcaaGreatDoorTF2
namespace Go.Proofs.YtibgakbkdonjcaaGreatDoor
open Go.RowKit Go.Maps Go.ChangeMaps Go.MapKept Ev
set_option linter.unusedVariables false
set_option maxRecDepth 100000

def St3 (s : StK) : Prop := s = sM ∨ s = sA ∨ s = sB

theorem gets3 {s : StK} (h : St3 s) : getsOk s = true := by
  rcases h with rfl | rfl | rfl
  · exact gets_M
  · exact gets_A
  · exact gets_B

theorem get_c {B : Nat} {φ : Mp} {s : StK} {w : World} {f k : Nat} {p : AV → Bool} {q : Nat × Nat} (h : chkGet f (pv k) p s = true) (G : Ev.Good B φ s w) (hq : φ k = some q) :
    Calls Tryz.prog f #[.pointer (some ⟨q.1, 0, none⟩)] w fun e w' => ∃ v φ' u, p v = true ∧ Ev.Good B φ s w' ∧ Below B w w' ∧ VA φ' v u ∧ (∀ j, j < s.n → φ' j = φ j) ∧ e = .returned u := by
  unfold chkGet at h
  split at h
  · rename_i v s' hrun
    rw [Bool.and_eq_true] at h
    refine (go hrun G (args := #[.pointer (some ⟨q.1, 0, none⟩)]) (by exact ⟨⟨q, hq, rfl⟩, trivial⟩)).mono ?_
    rintro e w' ⟨φ', u, g1, g2, g3, rfl, g4⟩
    have g5 := g1.back h.2 G.rel.top
    have : cut φ' s.n = φ := by
      funext j
      unfold cut
      split
      · rename_i hk; exact g4 j hk
      · rename_i hk; exact (G.rel.fresh j (by have : (absS s).n = s.n := rfl; omega)).symm
    rw [this] at g5
    exact ⟨v, φ', u, h.1, g5, g2, g3, g4, rfl⟩
  · cases h

theorem isI_val {φ : Mp} {v : AV} {u : Value} (h : isI v = true) (hv : VA φ v u) : ∃ n : Int, u = .int .i64 n := by
  unfold isI at h
  split at h
  · rename_i k n
    have := beqKind_eq h
    subst this
    exact ⟨n, hv⟩
  · cases h
theorem intIs_val {φ : Mp} {v : AV} {u : Value} {n : Int} (h : intIs n v = true) (hv : VA φ v u) : u = .int .i64 n := by
  unfold intIs at h
  split at h
  · rename_i k m
    rw [Bool.and_eq_true] at h
    have h1 := beqKind_eq h.1
    subst h1
    have h2 := h.2
    rw [ieq_eq, beq_iff_eq] at h2
    rw [← h2]
    exact hv
  · cases h
theorem isF_val {φ : Mp} {v : AV} {u : Value} (h : isF v = true) (hv : VA φ v u) : u = .bool false := by
  unfold isF at h
  split at h
  · rename_i b
    rw [beqB_eq, beq_iff_eq] at h
    subst h
    exact hv
  · cases h
theorem ptrIs_val {φ : Mp} {v : AV} {u : Value} {k : Nat} (h : ptrIs k v = true) (hv : VA φ v u) : ∃ q, φ k = some q ∧ u = .pointer (some ⟨q.1, 0, none⟩) := by
  unfold ptrIs at h
  split at h
  · rename_i b o
    simp only [Bool.and_eq_true, Nat.beq_eq] at h
    obtain ⟨rfl, rfl⟩ := h
    exact hv
  · cases h

section
variable {B : Nat} {φ : Mp} {s : StK} {w : World} {q : Nat × Nat}
theorem at_c (hs : St3 s) (G : Ev.Good B φ s w) (hq : φ mId = some q) : Calls Tryz.prog 26 #[.pointer (some ⟨q.1, 0, none⟩)] w fun e w' => ∃ n : Int, Ev.Good B φ s w' ∧ Below B w w' ∧ e = .returned (.int .i64 n) := by
  have h := gets3 hs
  simp only [getsOk, Bool.and_eq_true] at h
  refine (get_c h.1 G hq).mono ?_
  rintro e w' ⟨v, φ', u, g1, g2, g3, g4, g5, rfl⟩
  obtain ⟨n, rfl⟩ := isI_val g1 g4
  exact ⟨n, g2, g3, rfl⟩
theorem heap_c (hs : St3 s) (G : Ev.Good B φ s w) (hq : φ mId = some q) : Calls Tryz.prog 27 #[.pointer (some ⟨q.1, 0, none⟩)] w fun e w' => ∃ q', φ hId = some q' ∧ Ev.Good B φ s w' ∧ Below B w w' ∧ e = .returned (.pointer (some ⟨q'.1, 0, none⟩)) := by
  have h := gets3 hs
  simp only [getsOk, Bool.and_eq_true] at h
  have hl : hId < s.n := by
    have hle := h.2.2.1
    unfold chkGet at hle
    rcases hs with rfl | rfl | rfl
    · exact of_decide_eq_true (by kernel_rfl)
    · exact of_decide_eq_true (by kernel_rfl)
    · exact of_decide_eq_true (by kernel_rfl)
  refine (get_c h.2.1 G hq).mono ?_
  rintro e w' ⟨v, φ', u, g1, g2, g3, g4, g5, rfl⟩
  obtain ⟨q', h1, rfl⟩ := ptrIs_val g1 g4
  exact ⟨q', by rw [← g5 hId hl]; exact h1, g2, g3, rfl⟩
theorem len_c (hs : St3 s) (G : Ev.Good B φ s w) (hq : φ hId = some q) : Calls Tryz.prog 28 #[.pointer (some ⟨q.1, 0, none⟩)] w fun e w' => Ev.Good B φ s w' ∧ Below B w w' ∧ e = .returned (.int .i64 0) := by
  have h := gets3 hs
  simp only [getsOk, Bool.and_eq_true] at h
  refine (get_c h.2.2.1 G hq).mono ?_
  rintro e w' ⟨v, φ', u, g1, g2, g3, g4, g5, rfl⟩
  rw [intIs_val g1 g4]
  exact ⟨g2, g3, rfl⟩
theorem called_c (hs : St3 s) (G : Ev.Good B φ s w) (hq : φ mId = some q) : Calls Tryz.prog 30 #[.pointer (some ⟨q.1, 0, none⟩)] w fun e w' => Ev.Good B φ s w' ∧ Below B w w' ∧ e = .returned (.int .i64 (-1)) := by
  have h := gets3 hs
  simp only [getsOk, Bool.and_eq_true] at h
  refine (get_c h.2.2.2.1 G hq).mono ?_
  rintro e w' ⟨v, φ', u, g1, g2, g3, g4, g5, rfl⟩
  rw [intIs_val g1 g4]
  exact ⟨g2, g3, rfl⟩
theorem sunk_c (hs : St3 s) (G : Ev.Good B φ s w) (hq : φ mId = some q) : Calls Tryz.prog 31 #[.pointer (some ⟨q.1, 0, none⟩)] w fun e w' => Ev.Good B φ s w' ∧ Below B w w' ∧ e = .returned (.bool false) := by
  have h := gets3 hs
  simp only [getsOk, Bool.and_eq_true] at h
  refine (get_c h.2.2.2.2 G hq).mono ?_
  rintro e w' ⟨v, φ', u, g1, g2, g3, g4, g5, rfl⟩
  rw [isF_val g1 g4]
  exact ⟨g2, g3, rfl⟩

theorem top_run {f : Nat} {l : List AV} {s s' : StK} {v : AV} (h : run f l s = some (v, s')) (ht : Top (absS s)) : Top (absS s') :=
  (call_upd 200 f l _ _ _ (run_spec h) ht).top ht
theorem top_new {s s' : StK} {b : BK} {k : Nat} (h : newK s b = some (k, s')) (ht : Top (absS s)) : Top (absS s') := by
  have h1 := newK_eq s b
  rw [h] at h1
  exact (new_upd (b := k) (s' := absS s') h1.symm).top ht
theorem s0_top : Top (absS s0) := (rel_s0 default).top
theorem sP_top : Top (absS sP) := top_new np5 (top_new np4 (top_new np3 (top_new np2 (top_new np1 (top_new np0 s0_top)))))
theorem rM_some : rM.isSome = true := by have := rM_ok; rw [Bool.and_eq_true] at this; exact this.1
theorem sM_top : Top (absS sM) := top_run (v := vOf rM) (f := 25) (l := [pv 5, .v (.c .snil)]) (some_of (s := sP) rM_some) sP_top
theorem rA_some : rA.isSome = true := by have := step_facts; simp only [Bool.and_eq_true] at this; exact this.1.1
theorem sA_top : Top (absS sA) := top_run (v := vOf rA) (f := 29) (l := [pv mId]) (some_of (s := sM) rA_some) sM_top

theorem step_of {s s' : StK} {r : Option (AV × StK)} (hr : run 29 [pv mId] s = r) (h1 : r.isSome = true) (h2 : intIs 0 (vOf r) = true) (h3 : stOf s r = s') (hm : mId < s.n) (G : Ev.Good B φ s w) (hq : φ mId = some q) :
    Calls Tryz.prog 29 #[.pointer (some ⟨q.1, 0, none⟩)] w fun e w' => ∃ φ', Ev.Good B φ' s' w' ∧ φ' mId = some q ∧ (∀ j, j < s.n → φ' j = φ j) ∧ Below B w w' ∧ e = .returned (.int .i64 0) := by
  have h4 := some_of (s := s) h1
  rw [h3] at h4
  refine (go (hr.trans h4) G (args := #[.pointer (some ⟨q.1, 0, none⟩)]) (by exact ⟨⟨q, hq, rfl⟩, trivial⟩)).mono ?_
  rintro e w' ⟨φ', u, g1, g2, g3, rfl, g4⟩
  rw [intIs_val h2 g3]
  exact ⟨φ', g1, (g4 mId hm).trans hq, g4, g2, rfl⟩

theorem sM_lt : mId < sM.n := by have := mid_lt'; rwa [Nat.blt_eq] at this
theorem sA_lt : mId < sA.n := by have := mid_lt; rwa [Nat.blt_eq] at this
theorem sB_lt : mId < sB.n := of_decide_eq_true (by kernel_rfl)

theorem sMA : sM.n ≤ sA.n := of_decide_eq_true (by kernel_rfl)
theorem sAB : sA.n ≤ sB.n := of_decide_eq_true (by kernel_rfl)
theorem sPM : sP.n ≤ sM.n := of_decide_eq_true (by kernel_rfl)

theorem step_c (hs : St3 s) (G : Ev.Good B φ s w) (hq : φ mId = some q) : Calls Tryz.prog 29 #[.pointer (some ⟨q.1, 0, none⟩)] w fun e w' => ∃ φ' s', St3 s' ∧ Ev.Good B φ' s' w' ∧ φ' mId = some q ∧ (∀ j, j < sM.n → φ' j = φ j) ∧ Below B w w' ∧ e = .returned (.int .i64 0) := by
  have hf := step_facts
  simp only [Bool.and_eq_true] at hf
  obtain ⟨⟨a1, a2⟩, ⟨b1, b2⟩, ⟨c1, c2⟩, c3⟩ := hf
  rcases hs with rfl | rfl | rfl
  · refine (step_of (r := rA) rfl a1 a2 rfl sM_lt G hq).mono ?_
    rintro e w' ⟨φ', g1, g2, g5, g3, g4⟩
    exact ⟨φ', sA, .inr (.inl rfl), g1, g2, g5, g3, g4⟩
  · refine (step_of (r := rB) rfl b1 b2 rfl sA_lt G hq).mono ?_
    rintro e w' ⟨φ', g1, g2, g5, g3, g4⟩
    exact ⟨φ', sB, .inr (.inr rfl), g1, g2, fun j hj => g5 j (Nat.lt_of_lt_of_le hj sMA), g3, g4⟩
  · refine (step_of (r := rC) rfl c1 c2 rfl sB_lt G hq).mono ?_
    rintro e w' ⟨φ', g1, g2, g5, g3, g4⟩
    refine ⟨cut φ' sA.n, sA, .inr (.inl rfl), g1.back c3 sA_top, cut_of sA_lt g2, fun j hj => ?_, g3, g4⟩
    have h6 := Nat.lt_of_lt_of_le hj sMA
    unfold cut
    rw [if_pos h6]
    exact g5 j (Nat.lt_of_lt_of_le h6 sAB)

end
end Go.Proofs.YtibgakbkdonjcaaGreatDoor
