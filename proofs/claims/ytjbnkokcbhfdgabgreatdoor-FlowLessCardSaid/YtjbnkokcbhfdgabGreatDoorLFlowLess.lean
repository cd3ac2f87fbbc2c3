/- FlowLess gives true. -/
import Derived.Test.YtjbnkokcbhfdgabGreatDoorLb23
import Derived.Test.YtjbnkokcbhfdgabGreatDoorFle
import Derived.Deep.RegionHeld3
import Derived.StillTailTactics
namespace Go.Proofs.YtjbnkokcbhfdgabGreatDoor
open Go Go.RowKit Go.Lib Ev
set_option linter.unusedVariables false
set_option linter.unusedSimpArgs false
set_option maxRecDepth 100000

theorem begun23 (w : World) (hT : Tab w) : Calls Tryz.prog 12 #[] w fun e w' => Below w.heap.size w w' ∧ e = .returned (.bool true) :=
  (Ev.boolW Ev.tz_eq Ev.tz_upd b23 (args := #[]) (by exact trivial) w (Ev.tz_okw hT)).2
theorem push_at (w : World) (o : Obj) : (w.alloc o).heap[w.heap.size]? = some o := by unfold World.alloc; simp
theorem push_old (w : World) (o : Obj) {k : Nat} (h : k < w.heap.size) : (w.alloc o).heap[k]? = w.heap[k]? := by unfold World.alloc; simp [Array.getElem?_push, Nat.ne_of_lt h]
theorem push_size (w : World) (o : Obj) : (w.alloc o).heap.size = w.heap.size + 1 := by unfold World.alloc; simp
theorem heap3_0 (w : World) (a b c : Obj) : (((w.alloc a).alloc b).alloc c).heap[w.heap.size]? = some a :=
  (push_old _ _ (by rw [push_size, push_size]; omega)).trans ((push_old _ _ (by rw [push_size]; omega)).trans (push_at _ _))
theorem heap3_1 (w : World) (a b c : Obj) : (((w.alloc a).alloc b).alloc c).heap[w.heap.size + 1]? = some b := by
  have h := push_at (w.alloc a) b
  rw [push_size] at h
  exact (push_old _ _ (by rw [push_size, push_size]; omega)).trans h
theorem heap3_2 (w : World) (a b c : Obj) : (((w.alloc a).alloc b).alloc c).heap[w.heap.size + 1 + 1]? = some c := by
  have h := push_at ((w.alloc a).alloc b) c
  rw [push_size, push_size] at h
  exact h
theorem tab_of_below {w w' : World} (h : Tab w) (hb : Below w.heap.size w w') : Tab w' := h.kept fun r o hr => by
  have h1 : w.heap[r]? = some o := hr
  exact (hb.block r (Array.getElem?_eq_some_iff.1 h1).1).trans h1
set_option maxHeartbeats 8000000 in
theorem flowLess_true (w : World) (hT : Tab w) (p q r : Pla) : Calls Tryz.prog 4 #[p.v, q.v, r.v] w fun e w' => Below w.heap.size w w' ∧ e = .returned (.bool true) := by
  have L1 := fun W => less_in p q W
  have L2 := fun W => less_in q p W
  have L3 := fun W => less_in q r W
  have L4 := fun W => less_in p r W
  have L5 := fun W => rless_in p q W
  have L6 := fun W => req_in p q W
  have hxy : decide (p.lt q) = true → decide (q.lt p) = false := fun h => decide_eq_false (Pla.lt_asym p q (of_decide_eq_true h))
  have hxz : decide (p.lt q) = true → decide (q.lt r) = true → decide (p.lt r) = true := fun h h' => decide_eq_true (Pla.lt_trans p q r (of_decide_eq_true h) (of_decide_eq_true h'))
  generalize decide (p.lt q) = x at *
  generalize decide (q.lt p) = y at *
  generalize decide (q.lt r) = z at *
  generalize decide (p.lt r) = u at *
  obtain ⟨k, a, n, s, f⟩ := p
  obtain ⟨k', a', n', s', f'⟩ := q
  obtain ⟨k2, a2, n2, s2, f2⟩ := r
  unfold Pla.v at *
  dsimp only at *
  have hB : Below w.heap.size w (((w.alloc (.cells #[.int .i64 k, .int .i64 a, .int .i64 n, .int .i64 s, .int .i64 f] 52)).alloc (.cells #[.int .i64 k', .int .i64 a', .int .i64 n', .int .i64 s', .int .i64 f'] 52)).alloc (.cells #[.int .i64 k2, .int .i64 a2, .int .i64 n2, .int .i64 s2, .int .i64 f2] 52)) := (((Below.refl w.heap.size w).alloc (Nat.le_refl _) _).alloc (by simp) _).alloc (by simp; omega) _
  have hz : (((w.alloc (.cells #[.int .i64 k, .int .i64 a, .int .i64 n, .int .i64 s, .int .i64 f] 52)).alloc (.cells #[.int .i64 k', .int .i64 a', .int .i64 n', .int .i64 s', .int .i64 f'] 52)).alloc (.cells #[.int .i64 k2, .int .i64 a2, .int .i64 n2, .int .i64 s2, .int .i64 f2] 52)).heap.size = w.heap.size + 1 + 1 + 1 := by simp
  have p0 : P5 (((w.alloc (.cells #[.int .i64 k, .int .i64 a, .int .i64 n, .int .i64 s, .int .i64 f] 52)).alloc (.cells #[.int .i64 k', .int .i64 a', .int .i64 n', .int .i64 s', .int .i64 f'] 52)).alloc (.cells #[.int .i64 k2, .int .i64 a2, .int .i64 n2, .int .i64 s2, .int .i64 f2] 52)) w.heap.size k a n s f := p5_at (heap3_0 _ _ _ _)
  have p1 : P5 (((w.alloc (.cells #[.int .i64 k, .int .i64 a, .int .i64 n, .int .i64 s, .int .i64 f] 52)).alloc (.cells #[.int .i64 k', .int .i64 a', .int .i64 n', .int .i64 s', .int .i64 f'] 52)).alloc (.cells #[.int .i64 k2, .int .i64 a2, .int .i64 n2, .int .i64 s2, .int .i64 f2] 52)) (w.heap.size + 1) k' a' n' s' f' := p5_at (heap3_1 _ _ _ _)
  have p2 : P5 (((w.alloc (.cells #[.int .i64 k, .int .i64 a, .int .i64 n, .int .i64 s, .int .i64 f] 52)).alloc (.cells #[.int .i64 k', .int .i64 a', .int .i64 n', .int .i64 s', .int .i64 f'] 52)).alloc (.cells #[.int .i64 k2, .int .i64 a2, .int .i64 n2, .int .i64 s2, .int .i64 f2] 52)) (w.heap.size + 1 + 1) k2 a2 n2 s2 f2 := p5_at (heap3_2 _ _ _ _)
  obtain ⟨W0, hW0⟩ : ∃ W0, (((w.alloc (.cells #[.int .i64 k, .int .i64 a, .int .i64 n, .int .i64 s, .int .i64 f] 52)).alloc (.cells #[.int .i64 k', .int .i64 a', .int .i64 n', .int .i64 s', .int .i64 f'] 52)).alloc (.cells #[.int .i64 k2, .int .i64 a2, .int .i64 n2, .int .i64 s2, .int .i64 f2] 52)) = W0 := ⟨_, rfl⟩
  rw [hW0] at hB hz p0 p1 p2
  have hT0 : Tab W0 := tab_of_below hT hB
  have T := Lib.hid (begun23 W0 hT0)
  have HW := Lib.hid hW0; have HB := Lib.hid hB; have HZ := Lib.hid hz; have P0 := Lib.hid p0; have P1 := Lib.hid p1; have P2 := Lib.hid p2
  clear hW0 hB hz p0 p1 p2 hT hT0
  have KK := Lib.hid (fun W' (h : Below W0.heap.size W0 W') => (⟨P0.out.keep h (by have := HZ.out; omega), P1.out.keep h (by have := HZ.out; omega), P2.out.keep h (by have := HZ.out; omega)⟩ : P5 W' w.heap.size k a n s f ∧ P5 W' (w.heap.size + 1) k' a' n' s' f' ∧ P5 W' (w.heap.size + 1 + 1) k2 a2 n2 s2 f2))
  clear P0 P1 P2
  cases x with
  | false =>
    cases y with
    | false =>
      go_enter Tryz.func4, Tryz.ntmps4
      go_wp2_with fail
      rw [HW.out]
      refine T.out.mono ?_
      rintro e w1 ⟨b1, rfl⟩
      have B1 := Lib.hid b1
      obtain ⟨⟨u0, u1, u2, u3, u4⟩, ⟨v0, v1, v2, v3, v4⟩, ⟨x0, x1, x2, x3, x4⟩⟩ := KK.out w1 B1.out
      clear b1
      go_wp2_with fail
      clear u0 u1 u2 u3 u4 v0 v1 v2 v3 v4 x0 x1 x2 x3 x4
      refine (L1 _).mono ?_
      rintro e w2 ⟨rfl, b2⟩
      have B2 := Lib.hid (B1.out.trans (b2.mono B1.out.size))
      obtain ⟨⟨u0, u1, u2, u3, u4⟩, ⟨v0, v1, v2, v3, v4⟩, ⟨x0, x1, x2, x3, x4⟩⟩ := KK.out w2 B2.out
      clear b2
      go_wp2_with fail
      clear u0 u1 u2 u3 u4 v0 v1 v2 v3 v4 x0 x1 x2 x3 x4
      refine (L5 _).mono ?_
      rintro e w3 ⟨rfl, b3⟩
      have B3 := Lib.hid (B2.out.trans (b3.mono B2.out.size))
      obtain ⟨⟨u0, u1, u2, u3, u4⟩, ⟨v0, v1, v2, v3, v4⟩, ⟨x0, x1, x2, x3, x4⟩⟩ := KK.out w3 B3.out
      clear b3
      have KP := Lib.hid (fun w' (h : Below w3.heap.size w3 w') => (by
        obtain ⟨⟨g0, g1, g2, g3, g4⟩, ⟨h0, h1, h2, h3, h4⟩, _⟩ := KK.out w' (B3.out.trans (h.mono B3.out.size))
        exact ⟨h, g0, g1, g2, g3, g4, h0, h1, h2, h3, h4⟩ : (fun w' => Below w3.heap.size w3 w' ∧ w'.cell? ⟨w.heap.size, 0, none⟩ = some (.int .i64 k) ∧ w'.cell? ⟨w.heap.size, 1, none⟩ = some (.int .i64 a) ∧ w'.cell? ⟨w.heap.size, 2, none⟩ = some (.int .i64 n) ∧ w'.cell? ⟨w.heap.size, 3, none⟩ = some (.int .i64 s) ∧ w'.cell? ⟨w.heap.size, 4, none⟩ = some (.int .i64 f) ∧ w'.cell? ⟨w.heap.size + 1, 0, none⟩ = some (.int .i64 k') ∧ w'.cell? ⟨w.heap.size + 1, 1, none⟩ = some (.int .i64 a') ∧ w'.cell? ⟨w.heap.size + 1, 2, none⟩ = some (.int .i64 n') ∧ w'.cell? ⟨w.heap.size + 1, 3, none⟩ = some (.int .i64 s') ∧ w'.cell? ⟨w.heap.size + 1, 4, none⟩ = some (.int .i64 f')) w'))
      dsimp only at KP
      have M6 := fun w' (h : Below w3.heap.size w3 w') => (L6 w').mono (R' := fun e w'' => Below w3.heap.size w3 w'' ∧ e = _) fun _ _ ⟨he, b⟩ => ⟨h.trans (b.mono h.size), he⟩
      have M2 := fun w' (h : Below w3.heap.size w3 w') => (L2 w').mono (R' := fun e w'' => Below w3.heap.size w3 w'' ∧ e = _) fun _ _ ⟨he, b⟩ => ⟨h.trans (b.mono h.size), he⟩
      go_wp2_with fail
      go_region_held3 (fun w' => Below w3.heap.size w3 w' ∧ w'.cell? ⟨w.heap.size, 0, none⟩ = some (.int .i64 k) ∧ w'.cell? ⟨w.heap.size, 1, none⟩ = some (.int .i64 a) ∧ w'.cell? ⟨w.heap.size, 2, none⟩ = some (.int .i64 n) ∧ w'.cell? ⟨w.heap.size, 3, none⟩ = some (.int .i64 s) ∧ w'.cell? ⟨w.heap.size, 4, none⟩ = some (.int .i64 f) ∧ w'.cell? ⟨w.heap.size + 1, 0, none⟩ = some (.int .i64 k') ∧ w'.cell? ⟨w.heap.size + 1, 1, none⟩ = some (.int .i64 a') ∧ w'.cell? ⟨w.heap.size + 1, 2, none⟩ = some (.int .i64 n') ∧ w'.cell? ⟨w.heap.size + 1, 3, none⟩ = some (.int .i64 s') ∧ w'.cell? ⟨w.heap.size + 1, 4, none⟩ = some (.int .i64 f'))
        (first
          | exact KP.out _ (Below.refl _ _)
          | exact KP.out _ (by assumption)
          | exact KP.out _ ⟨rfl, rfl, rfl, Nat.le_refl _, fun _ _ => rfl⟩
          | exact KP.out _ (Below.trans (by assumption) ⟨rfl, rfl, rfl, Nat.le_refl _, fun _ _ => rfl⟩))
        (first
          | (go_at_call 15; refine (M6 _ (by first | assumption | exact Below.refl _ _ | exact ⟨rfl, rfl, rfl, Nat.le_refl _, fun _ _ => rfl⟩ | exact Below.trans (by assumption) ⟨rfl, rfl, rfl, Nat.le_refl _, fun _ _ => rfl⟩)).mono ?_; rintro e w' ⟨hb', rfl⟩)
          | (go_at_call 13; refine (M2 _ (by first | assumption | exact Below.refl _ _ | exact ⟨rfl, rfl, rfl, Nat.le_refl _, fun _ _ => rfl⟩ | exact Below.trans (by assumption) ⟨rfl, rfl, rfl, Nat.le_refl _, fun _ _ => rfl⟩)).mono ?_; rintro e w' ⟨hb', rfl⟩))
      rename_i S9
      have b9 := S9.1
      go_wp2_with fail
      go_ret
      exact ⟨((HB.out.trans (B3.out.mono HB.out.size)).trans (b9.mono (by have := HB.out.size; have := B3.out.size; omega))), by first | rfl | (simp; done)⟩
    | true =>
      go_enter Tryz.func4, Tryz.ntmps4
      go_wp2_with fail
      rw [HW.out]
      refine T.out.mono ?_
      rintro e w1 ⟨b1, rfl⟩
      have B1 := Lib.hid b1
      obtain ⟨⟨u0, u1, u2, u3, u4⟩, ⟨v0, v1, v2, v3, v4⟩, ⟨x0, x1, x2, x3, x4⟩⟩ := KK.out w1 B1.out
      clear b1
      go_wp2_with fail
      clear u0 u1 u2 u3 u4 v0 v1 v2 v3 v4 x0 x1 x2 x3 x4
      refine (L1 _).mono ?_
      rintro e w2 ⟨rfl, b2⟩
      have B2 := Lib.hid (B1.out.trans (b2.mono B1.out.size))
      obtain ⟨⟨u0, u1, u2, u3, u4⟩, ⟨v0, v1, v2, v3, v4⟩, ⟨x0, x1, x2, x3, x4⟩⟩ := KK.out w2 B2.out
      clear b2
      go_wp2_with fail
      clear u0 u1 u2 u3 u4 v0 v1 v2 v3 v4 x0 x1 x2 x3 x4
      refine (L5 _).mono ?_
      rintro e w3 ⟨rfl, b3⟩
      have B3 := Lib.hid (B2.out.trans (b3.mono B2.out.size))
      obtain ⟨⟨u0, u1, u2, u3, u4⟩, ⟨v0, v1, v2, v3, v4⟩, ⟨x0, x1, x2, x3, x4⟩⟩ := KK.out w3 B3.out
      clear b3
      have KP := Lib.hid (fun w' (h : Below w3.heap.size w3 w') => (by
        obtain ⟨⟨g0, g1, g2, g3, g4⟩, ⟨h0, h1, h2, h3, h4⟩, _⟩ := KK.out w' (B3.out.trans (h.mono B3.out.size))
        exact ⟨h, g0, g1, g2, g3, g4, h0, h1, h2, h3, h4⟩ : (fun w' => Below w3.heap.size w3 w' ∧ w'.cell? ⟨w.heap.size, 0, none⟩ = some (.int .i64 k) ∧ w'.cell? ⟨w.heap.size, 1, none⟩ = some (.int .i64 a) ∧ w'.cell? ⟨w.heap.size, 2, none⟩ = some (.int .i64 n) ∧ w'.cell? ⟨w.heap.size, 3, none⟩ = some (.int .i64 s) ∧ w'.cell? ⟨w.heap.size, 4, none⟩ = some (.int .i64 f) ∧ w'.cell? ⟨w.heap.size + 1, 0, none⟩ = some (.int .i64 k') ∧ w'.cell? ⟨w.heap.size + 1, 1, none⟩ = some (.int .i64 a') ∧ w'.cell? ⟨w.heap.size + 1, 2, none⟩ = some (.int .i64 n') ∧ w'.cell? ⟨w.heap.size + 1, 3, none⟩ = some (.int .i64 s') ∧ w'.cell? ⟨w.heap.size + 1, 4, none⟩ = some (.int .i64 f')) w'))
      dsimp only at KP
      have M6 := fun w' (h : Below w3.heap.size w3 w') => (L6 w').mono (R' := fun e w'' => Below w3.heap.size w3 w'' ∧ e = _) fun _ _ ⟨he, b⟩ => ⟨h.trans (b.mono h.size), he⟩
      have M2 := fun w' (h : Below w3.heap.size w3 w') => (L2 w').mono (R' := fun e w'' => Below w3.heap.size w3 w'' ∧ e = _) fun _ _ ⟨he, b⟩ => ⟨h.trans (b.mono h.size), he⟩
      go_wp2_with fail
      go_region_held3 (fun w' => Below w3.heap.size w3 w' ∧ w'.cell? ⟨w.heap.size, 0, none⟩ = some (.int .i64 k) ∧ w'.cell? ⟨w.heap.size, 1, none⟩ = some (.int .i64 a) ∧ w'.cell? ⟨w.heap.size, 2, none⟩ = some (.int .i64 n) ∧ w'.cell? ⟨w.heap.size, 3, none⟩ = some (.int .i64 s) ∧ w'.cell? ⟨w.heap.size, 4, none⟩ = some (.int .i64 f) ∧ w'.cell? ⟨w.heap.size + 1, 0, none⟩ = some (.int .i64 k') ∧ w'.cell? ⟨w.heap.size + 1, 1, none⟩ = some (.int .i64 a') ∧ w'.cell? ⟨w.heap.size + 1, 2, none⟩ = some (.int .i64 n') ∧ w'.cell? ⟨w.heap.size + 1, 3, none⟩ = some (.int .i64 s') ∧ w'.cell? ⟨w.heap.size + 1, 4, none⟩ = some (.int .i64 f'))
        (first
          | exact KP.out _ (Below.refl _ _)
          | exact KP.out _ (by assumption)
          | exact KP.out _ ⟨rfl, rfl, rfl, Nat.le_refl _, fun _ _ => rfl⟩
          | exact KP.out _ (Below.trans (by assumption) ⟨rfl, rfl, rfl, Nat.le_refl _, fun _ _ => rfl⟩))
        (first
          | (go_at_call 15; refine (M6 _ (by first | assumption | exact Below.refl _ _ | exact ⟨rfl, rfl, rfl, Nat.le_refl _, fun _ _ => rfl⟩ | exact Below.trans (by assumption) ⟨rfl, rfl, rfl, Nat.le_refl _, fun _ _ => rfl⟩)).mono ?_; rintro e w' ⟨hb', rfl⟩)
          | (go_at_call 13; refine (M2 _ (by first | assumption | exact Below.refl _ _ | exact ⟨rfl, rfl, rfl, Nat.le_refl _, fun _ _ => rfl⟩ | exact Below.trans (by assumption) ⟨rfl, rfl, rfl, Nat.le_refl _, fun _ _ => rfl⟩)).mono ?_; rintro e w' ⟨hb', rfl⟩))
      rename_i S9
      have b9 := S9.1
      go_wp2_with fail
      go_ret
      exact ⟨((HB.out.trans (B3.out.mono HB.out.size)).trans (b9.mono (by have := HB.out.size; have := B3.out.size; omega))), by first | rfl | (simp; done)⟩
  | true =>
    have hy := hxy rfl
    subst hy
    cases z with
    | false =>
      go_enter Tryz.func4, Tryz.ntmps4
      go_wp2_with fail
      rw [HW.out]
      refine T.out.mono ?_
      rintro e w1 ⟨b1, rfl⟩
      have B1 := Lib.hid b1
      obtain ⟨⟨u0, u1, u2, u3, u4⟩, ⟨v0, v1, v2, v3, v4⟩, ⟨x0, x1, x2, x3, x4⟩⟩ := KK.out w1 B1.out
      clear b1
      go_wp2_with fail
      clear u0 u1 u2 u3 u4 v0 v1 v2 v3 v4 x0 x1 x2 x3 x4
      refine (L1 _).mono ?_
      rintro e w2 ⟨rfl, b2⟩
      have B2 := Lib.hid (B1.out.trans (b2.mono B1.out.size))
      obtain ⟨⟨u0, u1, u2, u3, u4⟩, ⟨v0, v1, v2, v3, v4⟩, ⟨x0, x1, x2, x3, x4⟩⟩ := KK.out w2 B2.out
      clear b2
      go_wp2_with fail
      clear u0 u1 u2 u3 u4 v0 v1 v2 v3 v4 x0 x1 x2 x3 x4
      refine (L5 _).mono ?_
      rintro e w3 ⟨rfl, b3⟩
      have B3 := Lib.hid (B2.out.trans (b3.mono B2.out.size))
      obtain ⟨⟨u0, u1, u2, u3, u4⟩, ⟨v0, v1, v2, v3, v4⟩, ⟨x0, x1, x2, x3, x4⟩⟩ := KK.out w3 B3.out
      clear b3
      go_wp2_with fail
      clear u0 u1 u2 u3 u4 v0 v1 v2 v3 v4 x0 x1 x2 x3 x4
      refine (L2 _).mono ?_
      rintro e w4 ⟨rfl, b4⟩
      have B4 := Lib.hid (B3.out.trans (b4.mono B3.out.size))
      obtain ⟨⟨u0, u1, u2, u3, u4⟩, ⟨v0, v1, v2, v3, v4⟩, ⟨x0, x1, x2, x3, x4⟩⟩ := KK.out w4 B4.out
      clear b4
      go_wp2_with fail
      clear u0 u1 u2 u3 u4 v0 v1 v2 v3 v4 x0 x1 x2 x3 x4
      refine (L3 _).mono ?_
      rintro e w5 ⟨rfl, b5⟩
      have B5 := Lib.hid (B4.out.trans (b5.mono B4.out.size))
      obtain ⟨⟨u0, u1, u2, u3, u4⟩, ⟨v0, v1, v2, v3, v4⟩, ⟨x0, x1, x2, x3, x4⟩⟩ := KK.out w5 B5.out
      clear b5
      have KP := Lib.hid (fun w' (h : Below w5.heap.size w5 w') => (by
        obtain ⟨⟨g0, g1, g2, g3, g4⟩, ⟨h0, h1, h2, h3, h4⟩, _⟩ := KK.out w' (B5.out.trans (h.mono B5.out.size))
        exact ⟨h, g0, g1, g2, g3, g4, h0, h1, h2, h3, h4⟩ : (fun w' => Below w5.heap.size w5 w' ∧ w'.cell? ⟨w.heap.size, 0, none⟩ = some (.int .i64 k) ∧ w'.cell? ⟨w.heap.size, 1, none⟩ = some (.int .i64 a) ∧ w'.cell? ⟨w.heap.size, 2, none⟩ = some (.int .i64 n) ∧ w'.cell? ⟨w.heap.size, 3, none⟩ = some (.int .i64 s) ∧ w'.cell? ⟨w.heap.size, 4, none⟩ = some (.int .i64 f) ∧ w'.cell? ⟨w.heap.size + 1, 0, none⟩ = some (.int .i64 k') ∧ w'.cell? ⟨w.heap.size + 1, 1, none⟩ = some (.int .i64 a') ∧ w'.cell? ⟨w.heap.size + 1, 2, none⟩ = some (.int .i64 n') ∧ w'.cell? ⟨w.heap.size + 1, 3, none⟩ = some (.int .i64 s') ∧ w'.cell? ⟨w.heap.size + 1, 4, none⟩ = some (.int .i64 f')) w'))
      dsimp only at KP
      have M6 := fun w' (h : Below w5.heap.size w5 w') => (L6 w').mono (R' := fun e w'' => Below w5.heap.size w5 w'' ∧ e = _) fun _ _ ⟨he, b⟩ => ⟨h.trans (b.mono h.size), he⟩
      go_wp2_with fail
      refine wp_region_held_drew (S := (fun w' => Below w5.heap.size w5 w' ∧ w'.cell? ⟨w.heap.size, 0, none⟩ = some (.int .i64 k) ∧ w'.cell? ⟨w.heap.size, 1, none⟩ = some (.int .i64 a) ∧ w'.cell? ⟨w.heap.size, 2, none⟩ = some (.int .i64 n) ∧ w'.cell? ⟨w.heap.size, 3, none⟩ = some (.int .i64 s) ∧ w'.cell? ⟨w.heap.size, 4, none⟩ = some (.int .i64 f) ∧ w'.cell? ⟨w.heap.size + 1, 0, none⟩ = some (.int .i64 k') ∧ w'.cell? ⟨w.heap.size + 1, 1, none⟩ = some (.int .i64 a') ∧ w'.cell? ⟨w.heap.size + 1, 2, none⟩ = some (.int .i64 n') ∧ w'.cell? ⟨w.heap.size + 1, 3, none⟩ = some (.int .i64 s') ∧ w'.cell? ⟨w.heap.size + 1, 4, none⟩ = some (.int .i64 f'))) (by kernel_rfl) (KP.out _ ⟨rfl, rfl, rfl, Nat.le_refl _, fun _ _ => rfl⟩) (fun hH => ?_)
      refine wpAnyH_take (i := 0) (oi := { dst := some 42, op := _, type := _, pos := _, after := _, guard := _ }) (v := .bool true) rfl (by kernel_rfl) (by kernel_rfl) (by kernel_rfl) (fun _ _ _ h => h) (Or.inl ⟨rfl, fun w' hS => ?_⟩) (by assumption) ?_
      · obtain ⟨_, g0, g1, g2, g3, g4, h0, h1, h2, h3, h4⟩ := hS
        go_simp
      try simp only [Act.put, List.setIfInBounds_toArray, List.set_cons_zero, List.set_cons_succ]
      refine wpAnyH_take (i := 1) (oi := { dst := some 43, op := _, type := _, pos := _, after := _, guard := _ }) (v := .bool true) rfl (by kernel_rfl) (by kernel_rfl) (by kernel_rfl) (fun _ _ _ h => h) (Or.inl ⟨rfl, fun w' hS => ?_⟩) (by assumption) ?_
      · obtain ⟨_, g0, g1, g2, g3, g4, h0, h1, h2, h3, h4⟩ := hS
        go_simp
      try simp only [Act.put, List.setIfInBounds_toArray, List.set_cons_zero, List.set_cons_succ]
      refine wpAnyH_take (i := 2) (oi := { dst := some 44, op := _, type := _, pos := _, after := _, guard := _ }) (v := undef) rfl (by kernel_rfl) (by kernel_rfl) (by kernel_rfl) (fun _ _ _ h => h) (Or.inr ⟨rfl, rfl⟩) (by assumption) ?_
      try simp only [Act.put, List.setIfInBounds_toArray, List.set_cons_zero, List.set_cons_succ]
      refine wpAnyH_take (i := 3) (oi := { dst := some 45, op := _, type := _, pos := _, after := _, guard := _ }) (v := undef) rfl (by kernel_rfl) (by kernel_rfl) (by kernel_rfl) (fun _ _ _ h => h) (Or.inr ⟨rfl, rfl⟩) (by assumption) ?_
      try simp only [Act.put, List.setIfInBounds_toArray, List.set_cons_zero, List.set_cons_succ]
      refine wpAnyH_take (i := 4) (oi := { dst := some 46, op := _, type := _, pos := _, after := _, guard := _ }) (v := undef) rfl (by kernel_rfl) (by kernel_rfl) (by kernel_rfl) (fun _ _ _ h => h) (Or.inr ⟨rfl, rfl⟩) (by assumption) ?_
      try simp only [Act.put, List.setIfInBounds_toArray, List.set_cons_zero, List.set_cons_succ]
      refine wpAnyH_take (i := 5) (oi := { dst := some 47, op := _, type := _, pos := _, after := _, guard := _ }) (v := .bool true) rfl (by kernel_rfl) (by kernel_rfl) (by kernel_rfl) (fun _ _ _ h => h) (Or.inl ⟨rfl, fun w' hS => ?_⟩) (by assumption) ?_
      · obtain ⟨_, g0, g1, g2, g3, g4, h0, h1, h2, h3, h4⟩ := hS
        go_simp
      try simp only [Act.put, List.setIfInBounds_toArray, List.set_cons_zero, List.set_cons_succ]
      refine wpAnyH_take (i := 6) (oi := { dst := some 48, op := _, type := _, pos := _, after := _, guard := _ }) (v := .agg #[.int .i64 k, .int .i64 a, .int .i64 n, .int .i64 s, .int .i64 f]) rfl (by kernel_rfl) (by kernel_rfl) (by kernel_rfl) (fun _ _ _ h => h) (Or.inl ⟨rfl, fun w' hS => ?_⟩) (by assumption) ?_
      · obtain ⟨_, g0, g1, g2, g3, g4, h0, h1, h2, h3, h4⟩ := hS
        go_simp
      try simp only [Act.put, List.setIfInBounds_toArray, List.set_cons_zero, List.set_cons_succ]
      refine wpAnyH_take (i := 7) (oi := { dst := some 49, op := _, type := _, pos := _, after := _, guard := _ }) (v := .agg #[.int .i64 k', .int .i64 a', .int .i64 n', .int .i64 s', .int .i64 f']) rfl (by kernel_rfl) (by kernel_rfl) (by kernel_rfl) (fun _ _ _ h => h) (Or.inl ⟨rfl, fun w' hS => ?_⟩) (by assumption) ?_
      · obtain ⟨_, g0, g1, g2, g3, g4, h0, h1, h2, h3, h4⟩ := hS
        go_simp
      try simp only [Act.put, List.setIfInBounds_toArray, List.set_cons_zero, List.set_cons_succ]
      refine wpAnyH_ready (rs := [8]) (by kernel_rfl) (by simp) ?_
      refine AllReadyH.cons (o := { dst := some 50, op := _, type := _, pos := _, after := _, guard := _ }) rfl (fun K hK => ?_) AllReadyH.nil
      go_simp
      refine (M6 w5.drew ⟨rfl, rfl, rfl, Nat.le_refl _, fun _ _ => rfl⟩).mono ?_
      rintro e w9 ⟨b9, rfl⟩
      refine hK.out _ _ (KP.out _ b9) (fun hH2 => ?_)
      clear hK K hH
      try simp only [Act.put, List.setIfInBounds_toArray, List.set_cons_zero, List.set_cons_succ]
      refine wpAnyH_take (i := 9) (oi := { dst := some 51, op := _, type := _, pos := _, after := _, guard := _ }) (v := .bool true) rfl (by kernel_rfl) (by kernel_rfl) (by kernel_rfl) (fun _ _ _ h => h) (Or.inl ⟨rfl, fun w' hS => ?_⟩) (by assumption) ?_
      · obtain ⟨_, g0, g1, g2, g3, g4, h0, h1, h2, h3, h4⟩ := hS
        go_simp
      try simp only [Act.put, List.setIfInBounds_toArray, List.set_cons_zero, List.set_cons_succ]
      refine wpAnyH_take (i := 10) (oi := { dst := some 52, op := _, type := _, pos := _, after := _, guard := _ }) (v := .bool true) rfl (by kernel_rfl) (by kernel_rfl) (by kernel_rfl) (fun _ _ _ h => h) (Or.inl ⟨rfl, fun w' hS => ?_⟩) (by assumption) ?_
      · obtain ⟨_, g0, g1, g2, g3, g4, h0, h1, h2, h3, h4⟩ := hS
        go_simp
      try simp only [Act.put, List.setIfInBounds_toArray, List.set_cons_zero, List.set_cons_succ]
      refine wpAnyH_take (i := 11) (oi := { dst := some 6, op := _, type := _, pos := _, after := _, guard := _ }) (v := .bool true) rfl (by kernel_rfl) (by kernel_rfl) (by kernel_rfl) (fun _ _ _ h => h) (Or.inl ⟨rfl, fun w' hS => ?_⟩) (by assumption) ?_
      · obtain ⟨_, g0, g1, g2, g3, g4, h0, h1, h2, h3, h4⟩ := hS
        go_simp
      try simp only [Act.put, List.setIfInBounds_toArray, List.set_cons_zero, List.set_cons_succ]
      refine wpAnyH_done (by kernel_rfl) ?_ _
      go_wp2_with fail
      go_ret
      exact ⟨((HB.out.trans (B5.out.mono HB.out.size)).trans (b9.mono (by have := HB.out.size; have := B5.out.size; omega))), by first | rfl | (simp; done)⟩
    | true =>
      have hu := hxz rfl rfl
      subst hu
      go_enter Tryz.func4, Tryz.ntmps4
      go_wp2_with fail
      rw [HW.out]
      refine T.out.mono ?_
      rintro e w1 ⟨b1, rfl⟩
      have B1 := Lib.hid b1
      obtain ⟨⟨u0, u1, u2, u3, u4⟩, ⟨v0, v1, v2, v3, v4⟩, ⟨x0, x1, x2, x3, x4⟩⟩ := KK.out w1 B1.out
      clear b1
      go_wp2_with fail
      clear u0 u1 u2 u3 u4 v0 v1 v2 v3 v4 x0 x1 x2 x3 x4
      refine (L1 _).mono ?_
      rintro e w2 ⟨rfl, b2⟩
      have B2 := Lib.hid (B1.out.trans (b2.mono B1.out.size))
      obtain ⟨⟨u0, u1, u2, u3, u4⟩, ⟨v0, v1, v2, v3, v4⟩, ⟨x0, x1, x2, x3, x4⟩⟩ := KK.out w2 B2.out
      clear b2
      go_wp2_with fail
      clear u0 u1 u2 u3 u4 v0 v1 v2 v3 v4 x0 x1 x2 x3 x4
      refine (L5 _).mono ?_
      rintro e w3 ⟨rfl, b3⟩
      have B3 := Lib.hid (B2.out.trans (b3.mono B2.out.size))
      obtain ⟨⟨u0, u1, u2, u3, u4⟩, ⟨v0, v1, v2, v3, v4⟩, ⟨x0, x1, x2, x3, x4⟩⟩ := KK.out w3 B3.out
      clear b3
      go_wp2_with fail
      clear u0 u1 u2 u3 u4 v0 v1 v2 v3 v4 x0 x1 x2 x3 x4
      refine (L2 _).mono ?_
      rintro e w4 ⟨rfl, b4⟩
      have B4 := Lib.hid (B3.out.trans (b4.mono B3.out.size))
      obtain ⟨⟨u0, u1, u2, u3, u4⟩, ⟨v0, v1, v2, v3, v4⟩, ⟨x0, x1, x2, x3, x4⟩⟩ := KK.out w4 B4.out
      clear b4
      go_wp2_with fail
      clear u0 u1 u2 u3 u4 v0 v1 v2 v3 v4 x0 x1 x2 x3 x4
      refine (L3 _).mono ?_
      rintro e w5 ⟨rfl, b5⟩
      have B5 := Lib.hid (B4.out.trans (b5.mono B4.out.size))
      obtain ⟨⟨u0, u1, u2, u3, u4⟩, ⟨v0, v1, v2, v3, v4⟩, ⟨x0, x1, x2, x3, x4⟩⟩ := KK.out w5 B5.out
      clear b5
      go_wp2_with fail
      clear u0 u1 u2 u3 u4 v0 v1 v2 v3 v4 x0 x1 x2 x3 x4
      refine (L4 _).mono ?_
      rintro e w6 ⟨rfl, b6⟩
      have B6 := Lib.hid (B5.out.trans (b6.mono B5.out.size))
      obtain ⟨⟨u0, u1, u2, u3, u4⟩, ⟨v0, v1, v2, v3, v4⟩, ⟨x0, x1, x2, x3, x4⟩⟩ := KK.out w6 B6.out
      clear b6
      have KP := Lib.hid (fun w' (h : Below w6.heap.size w6 w') => (by
        obtain ⟨⟨g0, g1, g2, g3, g4⟩, ⟨h0, h1, h2, h3, h4⟩, _⟩ := KK.out w' (B6.out.trans (h.mono B6.out.size))
        exact ⟨h, g0, g1, g2, g3, g4, h0, h1, h2, h3, h4⟩ : (fun w' => Below w6.heap.size w6 w' ∧ w'.cell? ⟨w.heap.size, 0, none⟩ = some (.int .i64 k) ∧ w'.cell? ⟨w.heap.size, 1, none⟩ = some (.int .i64 a) ∧ w'.cell? ⟨w.heap.size, 2, none⟩ = some (.int .i64 n) ∧ w'.cell? ⟨w.heap.size, 3, none⟩ = some (.int .i64 s) ∧ w'.cell? ⟨w.heap.size, 4, none⟩ = some (.int .i64 f) ∧ w'.cell? ⟨w.heap.size + 1, 0, none⟩ = some (.int .i64 k') ∧ w'.cell? ⟨w.heap.size + 1, 1, none⟩ = some (.int .i64 a') ∧ w'.cell? ⟨w.heap.size + 1, 2, none⟩ = some (.int .i64 n') ∧ w'.cell? ⟨w.heap.size + 1, 3, none⟩ = some (.int .i64 s') ∧ w'.cell? ⟨w.heap.size + 1, 4, none⟩ = some (.int .i64 f')) w'))
      dsimp only at KP
      have M6 := fun w' (h : Below w6.heap.size w6 w') => (L6 w').mono (R' := fun e w'' => Below w6.heap.size w6 w'' ∧ e = _) fun _ _ ⟨he, b⟩ => ⟨h.trans (b.mono h.size), he⟩
      go_wp2_with fail
      refine wp_region_held_drew (S := (fun w' => Below w6.heap.size w6 w' ∧ w'.cell? ⟨w.heap.size, 0, none⟩ = some (.int .i64 k) ∧ w'.cell? ⟨w.heap.size, 1, none⟩ = some (.int .i64 a) ∧ w'.cell? ⟨w.heap.size, 2, none⟩ = some (.int .i64 n) ∧ w'.cell? ⟨w.heap.size, 3, none⟩ = some (.int .i64 s) ∧ w'.cell? ⟨w.heap.size, 4, none⟩ = some (.int .i64 f) ∧ w'.cell? ⟨w.heap.size + 1, 0, none⟩ = some (.int .i64 k') ∧ w'.cell? ⟨w.heap.size + 1, 1, none⟩ = some (.int .i64 a') ∧ w'.cell? ⟨w.heap.size + 1, 2, none⟩ = some (.int .i64 n') ∧ w'.cell? ⟨w.heap.size + 1, 3, none⟩ = some (.int .i64 s') ∧ w'.cell? ⟨w.heap.size + 1, 4, none⟩ = some (.int .i64 f'))) (by kernel_rfl) (KP.out _ ⟨rfl, rfl, rfl, Nat.le_refl _, fun _ _ => rfl⟩) (fun hH => ?_)
      refine wpAnyH_take (i := 0) (oi := { dst := some 42, op := _, type := _, pos := _, after := _, guard := _ }) (v := .bool true) rfl (by kernel_rfl) (by kernel_rfl) (by kernel_rfl) (fun _ _ _ h => h) (Or.inl ⟨rfl, fun w' hS => ?_⟩) (by assumption) ?_
      · obtain ⟨_, g0, g1, g2, g3, g4, h0, h1, h2, h3, h4⟩ := hS
        go_simp
      try simp only [Act.put, List.setIfInBounds_toArray, List.set_cons_zero, List.set_cons_succ]
      refine wpAnyH_take (i := 1) (oi := { dst := some 43, op := _, type := _, pos := _, after := _, guard := _ }) (v := .bool true) rfl (by kernel_rfl) (by kernel_rfl) (by kernel_rfl) (fun _ _ _ h => h) (Or.inl ⟨rfl, fun w' hS => ?_⟩) (by assumption) ?_
      · obtain ⟨_, g0, g1, g2, g3, g4, h0, h1, h2, h3, h4⟩ := hS
        go_simp
      try simp only [Act.put, List.setIfInBounds_toArray, List.set_cons_zero, List.set_cons_succ]
      refine wpAnyH_take (i := 2) (oi := { dst := some 44, op := _, type := _, pos := _, after := _, guard := _ }) (v := undef) rfl (by kernel_rfl) (by kernel_rfl) (by kernel_rfl) (fun _ _ _ h => h) (Or.inr ⟨rfl, rfl⟩) (by assumption) ?_
      try simp only [Act.put, List.setIfInBounds_toArray, List.set_cons_zero, List.set_cons_succ]
      refine wpAnyH_take (i := 3) (oi := { dst := some 45, op := _, type := _, pos := _, after := _, guard := _ }) (v := undef) rfl (by kernel_rfl) (by kernel_rfl) (by kernel_rfl) (fun _ _ _ h => h) (Or.inr ⟨rfl, rfl⟩) (by assumption) ?_
      try simp only [Act.put, List.setIfInBounds_toArray, List.set_cons_zero, List.set_cons_succ]
      refine wpAnyH_take (i := 4) (oi := { dst := some 46, op := _, type := _, pos := _, after := _, guard := _ }) (v := undef) rfl (by kernel_rfl) (by kernel_rfl) (by kernel_rfl) (fun _ _ _ h => h) (Or.inr ⟨rfl, rfl⟩) (by assumption) ?_
      try simp only [Act.put, List.setIfInBounds_toArray, List.set_cons_zero, List.set_cons_succ]
      refine wpAnyH_take (i := 5) (oi := { dst := some 47, op := _, type := _, pos := _, after := _, guard := _ }) (v := .bool true) rfl (by kernel_rfl) (by kernel_rfl) (by kernel_rfl) (fun _ _ _ h => h) (Or.inl ⟨rfl, fun w' hS => ?_⟩) (by assumption) ?_
      · obtain ⟨_, g0, g1, g2, g3, g4, h0, h1, h2, h3, h4⟩ := hS
        go_simp
      try simp only [Act.put, List.setIfInBounds_toArray, List.set_cons_zero, List.set_cons_succ]
      refine wpAnyH_take (i := 6) (oi := { dst := some 48, op := _, type := _, pos := _, after := _, guard := _ }) (v := .agg #[.int .i64 k, .int .i64 a, .int .i64 n, .int .i64 s, .int .i64 f]) rfl (by kernel_rfl) (by kernel_rfl) (by kernel_rfl) (fun _ _ _ h => h) (Or.inl ⟨rfl, fun w' hS => ?_⟩) (by assumption) ?_
      · obtain ⟨_, g0, g1, g2, g3, g4, h0, h1, h2, h3, h4⟩ := hS
        go_simp
      try simp only [Act.put, List.setIfInBounds_toArray, List.set_cons_zero, List.set_cons_succ]
      refine wpAnyH_take (i := 7) (oi := { dst := some 49, op := _, type := _, pos := _, after := _, guard := _ }) (v := .agg #[.int .i64 k', .int .i64 a', .int .i64 n', .int .i64 s', .int .i64 f']) rfl (by kernel_rfl) (by kernel_rfl) (by kernel_rfl) (fun _ _ _ h => h) (Or.inl ⟨rfl, fun w' hS => ?_⟩) (by assumption) ?_
      · obtain ⟨_, g0, g1, g2, g3, g4, h0, h1, h2, h3, h4⟩ := hS
        go_simp
      try simp only [Act.put, List.setIfInBounds_toArray, List.set_cons_zero, List.set_cons_succ]
      refine wpAnyH_ready (rs := [8]) (by kernel_rfl) (by simp) ?_
      refine AllReadyH.cons (o := { dst := some 50, op := _, type := _, pos := _, after := _, guard := _ }) rfl (fun K hK => ?_) AllReadyH.nil
      go_simp
      refine (M6 w6.drew ⟨rfl, rfl, rfl, Nat.le_refl _, fun _ _ => rfl⟩).mono ?_
      rintro e w9 ⟨b9, rfl⟩
      refine hK.out _ _ (KP.out _ b9) (fun hH2 => ?_)
      clear hK K hH
      try simp only [Act.put, List.setIfInBounds_toArray, List.set_cons_zero, List.set_cons_succ]
      refine wpAnyH_take (i := 9) (oi := { dst := some 51, op := _, type := _, pos := _, after := _, guard := _ }) (v := .bool true) rfl (by kernel_rfl) (by kernel_rfl) (by kernel_rfl) (fun _ _ _ h => h) (Or.inl ⟨rfl, fun w' hS => ?_⟩) (by assumption) ?_
      · obtain ⟨_, g0, g1, g2, g3, g4, h0, h1, h2, h3, h4⟩ := hS
        go_simp
      try simp only [Act.put, List.setIfInBounds_toArray, List.set_cons_zero, List.set_cons_succ]
      refine wpAnyH_take (i := 10) (oi := { dst := some 52, op := _, type := _, pos := _, after := _, guard := _ }) (v := .bool true) rfl (by kernel_rfl) (by kernel_rfl) (by kernel_rfl) (fun _ _ _ h => h) (Or.inl ⟨rfl, fun w' hS => ?_⟩) (by assumption) ?_
      · obtain ⟨_, g0, g1, g2, g3, g4, h0, h1, h2, h3, h4⟩ := hS
        go_simp
      try simp only [Act.put, List.setIfInBounds_toArray, List.set_cons_zero, List.set_cons_succ]
      refine wpAnyH_take (i := 11) (oi := { dst := some 6, op := _, type := _, pos := _, after := _, guard := _ }) (v := .bool true) rfl (by kernel_rfl) (by kernel_rfl) (by kernel_rfl) (fun _ _ _ h => h) (Or.inl ⟨rfl, fun w' hS => ?_⟩) (by assumption) ?_
      · obtain ⟨_, g0, g1, g2, g3, g4, h0, h1, h2, h3, h4⟩ := hS
        go_simp
      try simp only [Act.put, List.setIfInBounds_toArray, List.set_cons_zero, List.set_cons_succ]
      refine wpAnyH_done (by kernel_rfl) ?_ _
      go_wp2_with fail
      go_ret
      exact ⟨((HB.out.trans (B6.out.mono HB.out.size)).trans (b9.mono (by have := HB.out.size; have := B6.out.size; omega))), by first | rfl | (simp; done)⟩
end Go.Proofs.YtjbnkokcbhfdgabGreatDoor
