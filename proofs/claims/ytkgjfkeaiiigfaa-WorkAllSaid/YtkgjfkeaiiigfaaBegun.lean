/- The opening of each statement of layer 3: two that wait. -/
import Derived.Test.YtkgjfkeaiiigfaaNew
namespace Go.Proofs.Ytkgjfkeaiiigfaa
open Go.RowKit Go.Maps Go.ChangeMaps Go.MapKept
set_option linter.unusedVariables false

theorem reads_one (w : World) (n : Int) (hn : (Lit.int .i64 n).wf = true) : Reads (w.alloc (.cells #[.int .i64 n] 3)) (.slice (some ⟨w.heap.size, 0, none⟩) 1 1) [n] := by
  refine ⟨_, 1, rfl, by simp, by unfold maxLen; omega, by simpa using hn, fun _ => ⟨_, 0, rfl, fun j hj => ?_⟩⟩
  obtain rfl : j = 0 := by simpa using hj
  exact cell_of_row _ w.heap.size 0 #[.int .i64 n] 3 (0, 0) (alloc_at _ _ _ rfl)

theorem reads_none (w : World) : Reads w (.slice none 0 0) [] := ⟨none, 0, rfl, by simp, by simp, by simp, fun h => by simp at h⟩

theorem reads_some {w : World} {x : Addr} {len cap : Nat} {zs : List Int} (hl : len ≤ cap) (hm : cap ≤ maxLen) (hz : zs.length = cap) (hc : ∀ i, i < zs.length → w.cell? (x.add i) = some (.int .i64 (zs.getD i 0)))
    (hw : ∀ n ∈ zs, (Lit.int .i64 n).wf = true) : Reads w (.slice (some x) len cap) (zs.take len) := by
  have e : (zs.take len).length = len := by rw [List.length_take]; omega
  refine ⟨some x, cap, by rw [e], by omega, hm, fun y hy => hw y (List.mem_of_mem_take hy), fun h0 => ?_⟩
  have c0 := hc 0 (by omega)
  have hx : x.spot = none := by
    have ea : x.add 0 = x := by simp [Addr.add]
    rw [ea] at c0
    unfold World.cell? at c0
    cases hs : x.spot with
    | none => rfl
    | some s => rw [hs] at c0; simp at c0; split at c0 <;> simp at c0
  refine ⟨x.block, x.off, by cases x; simp at hx; simp [hx], fun j hj => ?_⟩
  have ea : x.add j = ⟨x.block, x.off + j, none⟩ := by
    unfold Addr.add
    split
    · rename_i h; subst h; cases x; simp at hx; simp [hx]
    · rfl
  rw [← ea, hc j (by omega)]
  simp [List.getD_eq_getElem?_getD, show j < len by omega]

set_option maxHeartbeats 1000000 in
theorem begun_true (w : World) : Calls Try.prog 7 #[] w fun e w' => e = .returned (.bool true) ∧ Below w.heap.size w w' := by
  have R := Lib.hid (reads_one w 1 (by decide))
  go_enter Try.func7, Try.ntmps7
  go_wp2_with fail
  refine (new_any (picks := [1]) R.out (by simp)).mono ?_
  rintro e w1 ⟨lb, rfl, L, B⟩
  have L1 := Lib.hid L; have B1 := Lib.hid B
  clear L B
  go_wp2_with fail
  refine (push_new L1.out 5 (by decide) (by simp) (by decide)).mono ?_
  rintro e w2 ⟨rfl, L, F⟩
  have L2 := Lib.hid L; have F2 := Lib.hid F
  clear L F
  go_wp2_with fail
  refine (push_new L2.out 7 (by decide) (by simp) (by decide)).mono ?_
  rintro e w3 ⟨rfl, L, F⟩
  have L3 := Lib.hid L; have F3 := Lib.hid F
  clear L F
  go_wp2_with fail
  refine (push_old L3.out 5 (by decide) (by simp)).mono ?_
  rintro e w' ⟨rfl, rfl⟩
  go_wp2_with fail
  have p1 : Calls Try.prog 10 #[.pointer (some ⟨lb, 0, none⟩)] w3 fun e w' => e = .returned (.tuple #[.int .i64 7, .bool true]) ∧ IsList _ w' lb [1] [5] 1 ∧ Fr _ w3 w' :=
    (pop_any L3.out (by simp) (by simp) (by simp) (by simp) (by simp; decide)).mono (fun _ _ h => h)
  refine p1.mono ?_
  clear p1
  rintro e w4 ⟨rfl, L, F⟩
  have L4 := Lib.hid L; have F4 := Lib.hid F
  clear L F
  go_wp2_with fail
  have p1 : Calls Try.prog 10 #[.pointer (some ⟨lb, 0, none⟩)] w4 fun e w' => e = .returned (.tuple #[.int .i64 5, .bool true]) ∧ IsList _ w' lb [1] [] 2 ∧ Fr _ w4 w' :=
    (pop_any L4.out (by simp) (by simp) (by simp) (by simp) (by simp; decide)).mono (fun _ _ h => h)
  refine p1.mono ?_
  clear p1
  rintro e w5 ⟨rfl, L, F⟩
  have L5 := Lib.hid L; have F5 := Lib.hid F
  clear L F
  go_wp2_with fail
  refine (pop_empty L5.out).mono ?_
  rintro e w' ⟨rfl, rfl⟩
  go_wp2_with fail
  refine (len_any L5.out).mono ?_
  rintro e w' ⟨rfl, rfl⟩
  go_wp2_with fail
  refine (pops_any L5.out).mono ?_
  rintro e w' ⟨rfl, rfl⟩
  go_wp2_with fail
  go_ret
  have z0 : (w.alloc (.cells #[.int .i64 1] 3)).heap.size = w.heap.size + 1 := alloc_size _ _
  have z1 := B1.out.size; have z2 := F2.out.size; have z3 := F3.out.size; have z4 := F4.out.size
  refine ⟨rfl, Fr.below (S := fun k => w.heap.size ≤ k) ?_ (Nat.le_refl _) (fun b hb => hb)⟩
  refine Fr.trans (Fr.trans (Fr.trans (Fr.trans (Fr.trans (Fr.alloc (Fr.refl _ w) _) (Fr.of_below (S := fun k => w.heap.size ≤ k) B1.out) (fun b hb => .inl hb)) F2.out ?_) F3.out ?_) F4.out ?_) F5.out ?_
  all_goals (intro b hb; refine .inl ?_; show w.heap.size ≤ b; omega)

end Go.Proofs.Ytkgjfkeaiiigfaa
