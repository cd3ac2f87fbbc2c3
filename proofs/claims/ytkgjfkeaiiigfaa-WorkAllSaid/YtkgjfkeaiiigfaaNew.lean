/- Package work: New: a copy of the picks, and nothing that waits. -/
import Derived.Test.YtkgjfkeaiiigfaaPop
namespace Go.Proofs.Ytkgjfkeaiiigfaa
open Go.RowKit Go.Maps Go.ChangeMaps Go.MapKept
set_option linter.unusedVariables false

/-- the numbers of a slice of ints that is only read, nil too -/
def Reads (w : World) (v : Value) (l : List Int) : Prop := ∃ A c, v = .slice A l.length c ∧ l.length ≤ c ∧ c ≤ maxLen ∧ (∀ x ∈ l, (Lit.int .i64 x).wf = true) ∧
  (0 < l.length → ∃ b off, A = some ⟨b, off, none⟩ ∧ ∀ j, j < l.length → w.cell? ⟨b, off + j, none⟩ = some (.int .i64 (l.getD j 0)))

theorem Reads.below {w w' : World} {v : Value} {l : List Int} (h : Reads w v l) (hb : Below w.heap.size w w') : Reads w' v l := by
  obtain ⟨A, c, h1, h2, h3, h4, h5⟩ := h
  refine ⟨A, c, h1, h2, h3, h4, fun h0 => ?_⟩
  obtain ⟨b, off, hA, hc⟩ := h5 h0
  exact ⟨b, off, hA, fun j hj => (hb.cell (p := ⟨b, off + j, none⟩) (World.block_lt_of_cell? w _ (hc j hj))).trans (hc j hj)⟩

theorem Reads.take {w : World} {A : Option Addr} {n c : Nat} {l : List Int} (h : Reads w (.slice A n c) l) (m : Nat) (hm : m ≤ n) : Reads w (.slice A m c) (l.take m) := by
  obtain ⟨A', c', h1, h2, h3, h4, h5⟩ := h
  injection h1 with e1 e2 e3
  subst e1 e2 e3
  have e : (l.take m).length = m := by rw [List.length_take]; omega
  refine ⟨A, c, by rw [e], by omega, h3, fun x hx => h4 x (List.mem_of_mem_take hx), fun h0 => ?_⟩
  obtain ⟨b, off, hA, hc⟩ := h5 (by omega)
  refine ⟨b, off, hA, fun j hj => ?_⟩
  rw [hc j (by omega)]
  simp [List.getD_eq_getElem?_getD, show j < m by omega]

theorem new_any {w : World} {v : Value} {picks : List Int} (h : Reads w v picks) (hbig : picks.length < 1099511627776) :
    Calls Try.prog 8 #[v] w fun e w' => ∃ lb, e = .returned (.pointer (some ⟨lb, 0, none⟩)) ∧ IsList (fun k => w.heap.size ≤ k ∧ k < w'.heap.size) w' lb picks [] 0 ∧ Below w.heap.size w w' := by
  obtain ⟨A, c, rfl, hc, hcap, hw, hA⟩ := h
  have key : Calls Try.prog 13 #[.slice A picks.length c] w fun e w' => ∃ v', e = .returned v' ∧ w'.ownsRow w.heap.size 3 1 v' picks.length (ints picks) ∧ Below w.heap.size w w' := by
    by_cases hp : 0 < picks.length
    · obtain ⟨b, off, rfl, hcell⟩ := hA hp
      refine (Try.slices_Clone_int b off picks.length c picks w (Nat.le_refl _) (by omega) hcell).mono ?_
      rintro e w' ⟨v', rfl, ho, _, hb⟩
      exact ⟨v', rfl, by simpa [ints] using ho, hb⟩
    · obtain rfl : picks = [] := List.eq_nil_of_length_eq_zero (by omega)
      cases A with
      | none =>
        refine (Try.slices_Clone_int_nil _ _ w).mono ?_
        rintro e w' ⟨rfl, rfl⟩
        exact ⟨_, rfl, World.ownsRow_nil _ _ _ _, Below.refl _ _⟩
      | some a =>
        refine (Try.slices_Clone_int_zero a c w).mono ?_
        rintro e w' ⟨v', rfl, ho, _, hb⟩
        exact ⟨v', rfl, ho, hb⟩
  have K := Lib.hid key
  clear key hA hc hcap hw
  have hmm := @run_makeMap Try.prog
  go_enter Try.func8, Try.ntmps8
  go_wp2_with fail
  refine K.out.mono ?_
  rintro e w1 ⟨v', rfl, ho, hb⟩
  have HO := Lib.hid ho; have HB := Lib.hid hb
  obtain ⟨A', c', rfl⟩ := row_len ho
  clear ho hb
  go_wp2_with fail
  go_ret
  have hsz := HB.out.size
  have hr := HO.out
  have hlt : ∀ k, (Value.slice A' picks.length c').ownBlock = some k → k < w1.heap.size := fun k hk => row_lt hr hk
  have old : ∀ (o : Obj) k, k < w1.heap.size → ((w1.alloc (.map #[] 0)).alloc o).heap[k]? = w1.heap[k]? := fun o k hk =>
    (alloc_old _ _ _ (by rw [alloc_size]; omega)).trans (alloc_old _ _ _ hk)
  refine ⟨_, rfl, ⟨_, _, _, alloc_at _ _ _ (by simp), row_base (row_move hr fun k hk => old _ k (hlt k hk)) (Nat.zero_le _), World.ownsRow_nil _ _ _ _, isSet_move (isSet_new w1) (alloc_old _ _ _ (by rw [alloc_size]; omega)),
    ⟨by omega, by simp⟩, ⟨hsz, by simp; omega⟩, fun k hk => ⟨(hr.lt k hk).1, by have := hlt k hk; simp; omega⟩, (fun k hk => by cases hk), (fun k _ => by simp [Value.ownBlock]), List.nodup_nil⟩, ?_⟩
  exact (HB.out.alloc hsz _).alloc (by rw [alloc_size]; omega) _

end Go.Proofs.Ytkgjfkeaiiigfaa
