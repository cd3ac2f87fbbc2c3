/- flow.Less and the document's Less, Eq: the order of places. -/
import Derived.Test.YtjbnkokcbhfdgabGreatDoorOr5
import Derived.Lib.Hide
namespace Go.Proofs.YtjbnkokcbhfdgabGreatDoor
open Go.RowKit Go.Shelf Go.Lib
set_option linter.unusedVariables false
set_option linter.unusedSimpArgs false
set_option maxRecDepth 10000

set_option maxHeartbeats 8000000 in
theorem compare_in (p q : Pla) (W : World) : Calls Tryz.prog 53 #[p.v, q.v] W fun e w' => e = .returned (.int .i64 (p.cmp q)) ∧ Below W.heap.size W w' := by
  obtain ⟨k, a, n, s, f⟩ := p
  obtain ⟨k', a', n', s', f'⟩ := q
  have hc0 := fun W => compare_int k k' W
  have hc1 := fun W => compare_int a a' W
  have hc2 := fun W => compare_int n n' W
  have hc3 := fun W => compare_int s s' W
  have hc4 := fun W => compare_int f f' W
  unfold Pla.cmp Pla.v
  dsimp only
  generalize Lib.compareInt k k' = r0 at hc0 ⊢
  generalize Lib.compareInt a a' = r1 at hc1 ⊢
  generalize Lib.compareInt n n' = r2 at hc2 ⊢
  generalize Lib.compareInt s s' = r3 at hc3 ⊢
  generalize Lib.compareInt f f' = r4 at hc4 ⊢
  have ho := fun b c W h0 h1 h2 h3 h4 => or5 b c r0 r1 r2 r3 r4 W h0 h1 h2 h3 h4
  generalize orI r0 (orI r1 (orI r2 (orI r3 r4))) = r5 at ho ⊢
  go_enter Tryz.func53, Tryz.ntmps53
  go_wp2
  have d0 : (((W.alloc (.cells #[.int .i64 k, .int .i64 a, .int .i64 n, .int .i64 s, .int .i64 f] 52)).alloc (.cells #[.int .i64 k', .int .i64 a', .int .i64 n', .int .i64 s', .int .i64 f'] 52)).drewN 1).cell? ⟨W.heap.size, 0, none⟩ = some (.int .i64 k) := by simp
  have c0 : (((W.alloc (.cells #[.int .i64 k, .int .i64 a, .int .i64 n, .int .i64 s, .int .i64 f] 52)).alloc (.cells #[.int .i64 k', .int .i64 a', .int .i64 n', .int .i64 s', .int .i64 f'] 52)).drewN 1).cell? ⟨W.heap.size + 1, 0, none⟩ = some (.int .i64 k') := by simp
  have d1 : (((W.alloc (.cells #[.int .i64 k, .int .i64 a, .int .i64 n, .int .i64 s, .int .i64 f] 52)).alloc (.cells #[.int .i64 k', .int .i64 a', .int .i64 n', .int .i64 s', .int .i64 f'] 52)).drewN 1).cell? ⟨W.heap.size, 1, none⟩ = some (.int .i64 a) := by simp
  have c1 : (((W.alloc (.cells #[.int .i64 k, .int .i64 a, .int .i64 n, .int .i64 s, .int .i64 f] 52)).alloc (.cells #[.int .i64 k', .int .i64 a', .int .i64 n', .int .i64 s', .int .i64 f'] 52)).drewN 1).cell? ⟨W.heap.size + 1, 1, none⟩ = some (.int .i64 a') := by simp
  have d2 : (((W.alloc (.cells #[.int .i64 k, .int .i64 a, .int .i64 n, .int .i64 s, .int .i64 f] 52)).alloc (.cells #[.int .i64 k', .int .i64 a', .int .i64 n', .int .i64 s', .int .i64 f'] 52)).drewN 1).cell? ⟨W.heap.size, 2, none⟩ = some (.int .i64 n) := by simp
  have c2 : (((W.alloc (.cells #[.int .i64 k, .int .i64 a, .int .i64 n, .int .i64 s, .int .i64 f] 52)).alloc (.cells #[.int .i64 k', .int .i64 a', .int .i64 n', .int .i64 s', .int .i64 f'] 52)).drewN 1).cell? ⟨W.heap.size + 1, 2, none⟩ = some (.int .i64 n') := by simp
  have d3 : (((W.alloc (.cells #[.int .i64 k, .int .i64 a, .int .i64 n, .int .i64 s, .int .i64 f] 52)).alloc (.cells #[.int .i64 k', .int .i64 a', .int .i64 n', .int .i64 s', .int .i64 f'] 52)).drewN 1).cell? ⟨W.heap.size, 3, none⟩ = some (.int .i64 s) := by simp
  have c3 : (((W.alloc (.cells #[.int .i64 k, .int .i64 a, .int .i64 n, .int .i64 s, .int .i64 f] 52)).alloc (.cells #[.int .i64 k', .int .i64 a', .int .i64 n', .int .i64 s', .int .i64 f'] 52)).drewN 1).cell? ⟨W.heap.size + 1, 3, none⟩ = some (.int .i64 s') := by simp
  have d4 : (((W.alloc (.cells #[.int .i64 k, .int .i64 a, .int .i64 n, .int .i64 s, .int .i64 f] 52)).alloc (.cells #[.int .i64 k', .int .i64 a', .int .i64 n', .int .i64 s', .int .i64 f'] 52)).drewN 1).cell? ⟨W.heap.size, 4, none⟩ = some (.int .i64 f) := by simp
  have c4 : (((W.alloc (.cells #[.int .i64 k, .int .i64 a, .int .i64 n, .int .i64 s, .int .i64 f] 52)).alloc (.cells #[.int .i64 k', .int .i64 a', .int .i64 n', .int .i64 s', .int .i64 f'] 52)).drewN 1).cell? ⟨W.heap.size + 1, 4, none⟩ = some (.int .i64 f') := by simp
  refine wp_region_still_tail 29 (by kernel_rfl) (by kernel_rfl) ?_
  change wpStill _ _ (((W.alloc (.cells #[.int .i64 k, .int .i64 a, .int .i64 n, .int .i64 s, .int .i64 f] 52)).alloc (.cells #[.int .i64 k', .int .i64 a', .int .i64 n', .int .i64 s', .int .i64 f'] 52)).drewN 1) _ _ _
  obtain ⟨W3, hW3⟩ : ∃ W3, (((W.alloc (.cells #[.int .i64 k, .int .i64 a, .int .i64 n, .int .i64 s, .int .i64 f] 52)).alloc (.cells #[.int .i64 k', .int .i64 a', .int .i64 n', .int .i64 s', .int .i64 f'] 52)).drewN 1) = W3 := ⟨_, rfl⟩
  have z3 : W3.heap.size = W.heap.size + 1 + 1 := by rw [← hW3]; simp
  rw [hW3] at d0 d1 d2 d3 d4 c0 c1 c2 c3 c4 ⊢
  have HE := Lib.hid hW3
  have HZ := Lib.hid z3
  clear hW3 z3
  simp only [List.take_succ_cons, List.take_zero, List.drop_succ_cons, List.drop_zero]
  still_step
  still_step
  still_step
  still_step
  still_call (hc0 W3)
  still_step
  still_step
  still_step
  still_step
  still_call (hc1 W3)
  still_step
  still_step
  still_step
  still_step
  still_call (hc2 W3)
  still_step
  still_step
  still_step
  still_step
  still_step
  still_step
  still_call (hc3 W3)
  still_step
  still_step
  still_step
  still_step
  still_step
  still_step
  still_call (hc4 W3)
  refine wpStill_nil ?_
  change wpList _ _ _ _ _ (((W.alloc (.cells #[.int .i64 k, .int .i64 a, .int .i64 n, .int .i64 s, .int .i64 f] 52)).alloc (.cells #[.int .i64 k', .int .i64 a', .int .i64 n', .int .i64 s', .int .i64 f'] 52)).drewN 1)
  rw [HE.out]
  go_wp2_with (go_at_call 96; refine (ho _ _ _ (by simp) (by simp) (by simp) (by simp) (by simp)).mono ?_; rintro e w' ⟨rfl, rfl⟩)
  go_ret
  have b3 : Below W.heap.size W W3 := by
    rw [← HE.out]
    exact (((Below.refl W.heap.size W).alloc (Nat.le_refl _) _).alloc (by simp) _).trans ⟨rfl, rfl, rfl, Nat.le_refl _, fun _ _ => rfl⟩
  exact ⟨rfl, b3.alloc (by have := HZ.out; omega) _⟩

set_option maxHeartbeats 2000000 in
theorem less_in (p q : Pla) (W : World) : Calls Tryz.prog 13 #[p.v, q.v] W fun e w' => e = .returned (.bool (decide (p.lt q))) ∧ Below W.heap.size W w' := by
  have hc := fun W => compare_in p q W
  have hl := p.cmp_lt q
  rw [show decide (p.lt q) = decide (p.cmp q < 0) from by simp only [hl]]
  clear hl
  generalize p.cmp q = r at hc ⊢
  obtain ⟨k, a, n, s, f⟩ := p
  obtain ⟨k', a', n', s', f'⟩ := q
  unfold Pla.v at *
  dsimp only at *
  go_enter Tryz.func13, Tryz.ntmps13
  go_wp2_with (go_at_call 53; refine (hc _).mono ?_; rintro e w' ⟨rfl, hb⟩)
  go_ret
  exact ⟨rfl, (((Below.refl W.heap.size W).alloc (Nat.le_refl _) _).alloc (by simp) _).trans (hb.mono (by simp; omega))⟩


set_option maxHeartbeats 4000000 in
theorem rless_in (p q : Pla) (W : World) : Calls Tryz.prog 14 #[p.v, q.v] W fun e w' => e = .returned (.bool (decide (p.lt q))) ∧ Below W.heap.size W w' := by
  have hB : ∀ A B : Obj, Below W.heap.size W ((W.alloc A).alloc B) := fun A B => ((Below.refl W.heap.size W).alloc (Nat.le_refl _) _).alloc (by simp) _
  obtain ⟨k, a, n, s, f⟩ := p
  obtain ⟨k', a', n', s', f'⟩ := q
  unfold Pla.v Pla.lt
  dsimp only
  by_cases e0 : k = k'
  · subst e0
    by_cases e1 : a = a'
    · subst e1
      by_cases e2 : n = n'
      · subst e2
        by_cases e3 : s = s'
        · subst e3
          have hd : decide (k < k ∨ k = k ∧ (a < a ∨ a = a ∧ (n < n ∨ n = n ∧ (s < s ∨ s = s ∧ f < f')))) = decide (f < f') := by simp
          rw [hd]
          go_enter Tryz.func14, Tryz.ntmps14
          go_wp2
          go_ret
          exact ⟨rfl, hB _ _⟩
        · have hd : decide (k < k ∨ k = k ∧ (a < a ∨ a = a ∧ (n < n ∨ n = n ∧ (s < s' ∨ s = s' ∧ f < f')))) = decide (s < s') := by simp [e3]
          have d : decide (s = s') = false := decide_eq_false e3
          have dd : (s == s') = false := by simp [e3]
          have de : (s != s') = true := by simp [e3]
          rw [hd]
          clear e3 hd
          go_enter Tryz.func14, Tryz.ntmps14
          go_wp2
          go_ret
          exact ⟨rfl, hB _ _⟩
      · have hd : decide (k < k ∨ k = k ∧ (a < a ∨ a = a ∧ (n < n' ∨ n = n' ∧ (s < s' ∨ s = s' ∧ f < f')))) = decide (n < n') := by simp [e2]
        have d : decide (n = n') = false := decide_eq_false e2
        have dd : (n == n') = false := by simp [e2]
        have de : (n != n') = true := by simp [e2]
        rw [hd]
        clear e2 hd
        go_enter Tryz.func14, Tryz.ntmps14
        go_wp2
        go_ret
        exact ⟨rfl, hB _ _⟩
    · have hd : decide (k < k ∨ k = k ∧ (a < a' ∨ a = a' ∧ (n < n' ∨ n = n' ∧ (s < s' ∨ s = s' ∧ f < f')))) = decide (a < a') := by simp [e1]
      have d : decide (a = a') = false := decide_eq_false e1
      have dd : (a == a') = false := by simp [e1]
      have de : (a != a') = true := by simp [e1]
      rw [hd]
      clear e1 hd
      go_enter Tryz.func14, Tryz.ntmps14
      go_wp2
      go_ret
      exact ⟨rfl, hB _ _⟩
  · have hd : decide (k < k' ∨ k = k' ∧ (a < a' ∨ a = a' ∧ (n < n' ∨ n = n' ∧ (s < s' ∨ s = s' ∧ f < f')))) = decide (k < k') := by simp [e0]
    have d : decide (k = k') = false := decide_eq_false e0
    have dd : (k == k') = false := by simp [e0]
    have de : (k != k') = true := by simp [e0]
    rw [hd]
    clear e0 hd
    go_enter Tryz.func14, Tryz.ntmps14
    go_wp2
    go_ret
    exact ⟨rfl, hB _ _⟩
/-- a place lies in a block -/
def P5 (w : World) (b : Nat) (k a n s f : Int) : Prop := w.cell? ⟨b, 0, none⟩ = some (.int .i64 k) ∧ w.cell? ⟨b, 1, none⟩ = some (.int .i64 a) ∧ w.cell? ⟨b, 2, none⟩ = some (.int .i64 n) ∧ w.cell? ⟨b, 3, none⟩ = some (.int .i64 s) ∧ w.cell? ⟨b, 4, none⟩ = some (.int .i64 f)
theorem P5.keep {B : Nat} {w w' : World} {b : Nat} {k a n s f : Int} (h : P5 w b k a n s f) (hb : Below B w w') (hl : b < B) : P5 w' b k a n s f := by
  have e : ∀ i, w'.cell? ⟨b, i, none⟩ = w.cell? ⟨b, i, none⟩ := fun i => World.cell?_of_block (hb.block b hl)
  obtain ⟨h0, h1, h2, h3, h4⟩ := h
  exact ⟨(e 0).trans h0, (e 1).trans h1, (e 2).trans h2, (e 3).trans h3, (e 4).trans h4⟩
theorem p5_at {w : World} {b : Nat} {k a n s f : Int} (h : w.heap[b]? = some (.cells #[.int .i64 k, .int .i64 a, .int .i64 n, .int .i64 s, .int .i64 f] 52 (0, 0))) : P5 w b k a n s f := by
  refine ⟨?_, ?_, ?_, ?_, ?_⟩ <;> (unfold World.cell?; simp [h])
set_option maxHeartbeats 2000000 in
theorem req_in (p q : Pla) (W : World) : Calls Tryz.prog 15 #[p.v, q.v] W fun e w' => e = .returned (.bool (!decide (p.lt q) && !decide (q.lt p))) ∧ Below W.heap.size W w' := by
  have h1 := fun W => rless_in p q W
  have h2 := fun W => rless_in q p W
  generalize decide (p.lt q) = x at h1 ⊢
  generalize decide (q.lt p) = y at h2 ⊢
  obtain ⟨k, a, n, s, f⟩ := p
  obtain ⟨k', a', n', s', f'⟩ := q
  unfold Pla.v at *
  dsimp only at *
  have hB : Below W.heap.size W ((W.alloc (.cells #[.int .i64 k, .int .i64 a, .int .i64 n, .int .i64 s, .int .i64 f] 52)).alloc (.cells #[.int .i64 k', .int .i64 a', .int .i64 n', .int .i64 s', .int .i64 f'] 52)) := ((Below.refl W.heap.size W).alloc (Nat.le_refl _) _).alloc (by simp) _
  have hz : ((W.alloc (.cells #[.int .i64 k, .int .i64 a, .int .i64 n, .int .i64 s, .int .i64 f] 52)).alloc (.cells #[.int .i64 k', .int .i64 a', .int .i64 n', .int .i64 s', .int .i64 f'] 52)).heap.size = W.heap.size + 1 + 1 := by simp
  have p0 : P5 ((W.alloc (.cells #[.int .i64 k, .int .i64 a, .int .i64 n, .int .i64 s, .int .i64 f] 52)).alloc (.cells #[.int .i64 k', .int .i64 a', .int .i64 n', .int .i64 s', .int .i64 f'] 52)) W.heap.size k a n s f := by refine ⟨?_, ?_, ?_, ?_, ?_⟩ <;> simp
  have p1 : P5 ((W.alloc (.cells #[.int .i64 k, .int .i64 a, .int .i64 n, .int .i64 s, .int .i64 f] 52)).alloc (.cells #[.int .i64 k', .int .i64 a', .int .i64 n', .int .i64 s', .int .i64 f'] 52)) (W.heap.size + 1) k' a' n' s' f' := by refine ⟨?_, ?_, ?_, ?_, ?_⟩ <;> simp
  cases x with
  | true =>
    clear p0 p1 hz h2
    go_enter Tryz.func15, Tryz.ntmps15
    go_wp2_with fail
    refine (h1 _).mono ?_
    rintro e w1 ⟨rfl, b1⟩
    go_wp2_with fail
    go_ret
    exact ⟨by simp, hB.trans (b1.mono (by simp; omega))⟩
  | false =>
    obtain ⟨W0, hW0⟩ : ∃ W0, ((W.alloc (.cells #[.int .i64 k, .int .i64 a, .int .i64 n, .int .i64 s, .int .i64 f] 52)).alloc (.cells #[.int .i64 k', .int .i64 a', .int .i64 n', .int .i64 s', .int .i64 f'] 52)) = W0 := ⟨_, rfl⟩
    rw [hW0] at hB hz p0 p1
    have HW := Lib.hid hW0; have HB := Lib.hid hB; have HZ := Lib.hid hz; have P0 := Lib.hid p0; have P1 := Lib.hid p1
    clear hW0 hB hz p0 p1
    go_enter Tryz.func15, Tryz.ntmps15
    go_wp2_with fail
    rw [HW.out]
    refine (h1 _).mono ?_
    rintro e w1 ⟨rfl, b1⟩
    have hz := HZ.out
    obtain ⟨u0, u1, u2, u3, u4⟩ := P0.out.keep b1 (by omega)
    obtain ⟨v0, v1, v2, v3, v4⟩ := P1.out.keep b1 (by omega)
    have B1 := Lib.hid b1
    clear b1 hz
    go_wp2_with fail
    refine (h2 _).mono ?_
    rintro e w2 ⟨rfl, b2⟩
    have B2 := Lib.hid b2
    clear b2
    go_wp2_with fail
    go_ret
    exact ⟨by simp, (HB.out.trans (B1.out.mono (by have := HZ.out; omega))).trans (B2.out.mono (by have := HZ.out; have := B1.out.size; omega))⟩
end Go.Proofs.YtjbnkokcbhfdgabGreatDoor
