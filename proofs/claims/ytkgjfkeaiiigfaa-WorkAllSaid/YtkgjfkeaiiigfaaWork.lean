/- Package work: what New, Push, Len and Pops do: a list that waits, each number once. -/
import Derived.Test.YtkgjfkeaiiigfaaBase
import Derived.Test.YtkgjfkeaiiigfaaShelf
namespace Go.Proofs.Ytkgjfkeaiiigfaa
open Go.RowKit Go.Maps Go.ChangeMaps Go.MapKept
set_option linter.unusedVariables false

theorem key3 : Keyed Try.prog 3 := int_keyed Try.underlying3
theorem zeroB (w : World) : (zeroValue 4).run Try.prog w = .ok (.bool false) w := by kernel_rfl
theorem info3 : (Try.prog.info? 3).map (fun i => (i.zero, i.size, i.bytes)) = some (some (.int .i64 0), 1, 8) := by kernel_rfl

/-- block b is a map[int]bool in which just the numbers of l are true, and there is no other key -/
def IsSet (w : World) (b : Nat) (l : List Int) : Prop := ∃ D : DataW Unit, w.ownsMap Try.prog 3 (plainElem Try.prog 4) b l.length D ∧ size D = l.length ∧
  ∀ x, D.atKey (.int .i64 x) (.lit (.bool false)) = .lit (.bool (decide (x ∈ l))) ∧ has D (.int .i64 x) = decide (x ∈ l)

theorem isSet_move {w w' : World} {b : Nat} {l : List Int} (h : IsSet w b l) (hm : w'.heap[b]? = w.heap[b]?) : IsSet w' b l := by
  obtain ⟨D, h1, hs, h2⟩ := h
  exact ⟨D, map_move h1 hm, hs, h2⟩

theorem isSet_lt {w : World} {b : Nat} {l : List Int} (h : IsSet w b l) : b < w.heap.size := by
  obtain ⟨D, h1, _⟩ := h
  exact h1.lt

theorem isSet_new (w : World) : IsSet (w.alloc (.map #[] 0)) w.heap.size [] :=
  ⟨.map [], World.ownsMap_made _ _ _ _, rfl, fun x => ⟨by simp [DataW.atKey], by simp [has]⟩⟩

theorem isSet_look {w : World} {b : Nat} {l : List Int} (h : IsSet w b l) (x : Int) (hx : (Lit.int .i64 x).wf = true) :
    (Instr.lookup 34 (.map (some b)) (.int .i64 x) false).run Try.prog w = .ok (.bool (decide (x ∈ l))) w := by
  obtain ⟨D, h1, _, h2⟩ := h
  obtain ⟨v, ps, hrun, hv⟩ := h1.lookup key3 Try.underlying34 (zeroB w) (plainElem_bool Try.underlying4 false) (keyOf_int_mk Try.underlying3 hx)
  rw [(h2 x).1] at hv
  rw [hrun]
  unfold plainElem at hv
  rw [Try.underlying4] at hv
  cases v <;> simp at hv
  rw [hv.1]

theorem isSet_put {w : World} {b : Nat} {l : List Int} (h : IsSet w b l) (x : Int) (hx : (Lit.int .i64 x).wf = true) (hl : l.length < maxLen) :
    ∃ w', (Instr.mapUpdate 34 (.map (some b)) (.int .i64 x) (.bool true)).run Try.prog w = .ok () w' ∧ IsSet w' b (if x ∈ l then l else l ++ [x]) ∧ w.grownBy w' (some b) ∧ w'.heap.size = w.heap.size := by
  obtain ⟨D, h1, hs, h2⟩ := h
  obtain ⟨w', hrun, h3, h4⟩ := h1.store key3 Try.underlying34 hl (keyOf_int_mk Try.underlying3 hx) (plainElem_bool (H := Unit) Try.underlying4 true)
  have e0 := size_put (k := .int .i64 x) (h1.tidy key3) (.lit (.bool true))
  have hsz : size (D.put (.int .i64 x) (.lit (.bool true))) = (if x ∈ l then l else l ++ [x]).length := by
    rw [e0, (h2 x).2]
    by_cases hm : x ∈ l
    · simp [hm, hs]
    · simp [hm, hs]
  refine ⟨w', hrun, ⟨D.put (.int .i64 x) (.lit (.bool true)), ?_, hsz, fun y => ?_⟩, h4.grown, ?_⟩
  · obtain ⟨es, clock, hb, F, _, hD⟩ := h3
    refine ⟨es, clock, hb, F, ?_, hD⟩
    rw [← hsz, hD]
    simp [size, length_sorted]
  · by_cases e : y = x
    · subst e
      have k : WideAt.IsKeyLit (.int .i64 y) := by simp [WideAt.IsKeyLit]
      have hm : y ∈ (if y ∈ l then l else l ++ [y]) := by split <;> simp_all
      exact ⟨by rw [atKey_put_same h1.isMap k, decide_eq_true hm], by rw [has_put_same h1.isMap k, decide_eq_true hm]⟩
    · have ne : (Lit.int .i64 y) ≠ .int .i64 x := fun h => e (by injection h)
      have hm : (y ∈ (if x ∈ l then l else l ++ [x])) = (y ∈ l) := by split <;> simp [e]
      exact ⟨by rw [atKey_put_other ne, (h2 y).1]; simp only [hm], by rw [has_put_other ne, (h2 y).2]; simp only [hm]⟩
  · obtain ⟨_, _, _, _, _, rfl⟩ := h4
    simp [setBlock]

theorem isSet_drop {w : World} {b : Nat} {l : List Int} (h : IsSet w b l) (x : Int) (hx : (Lit.int .i64 x).wf = true) (hn : l.Nodup) (ty : TypeId) :
    ∃ w', (Builtin.delete_ #[34, 3] ty #[.map (some b), .int .i64 x]).run Try.prog w = .ok (.tuple #[]) w' ∧ IsSet w' b (l.erase x) ∧ w.grownBy w' (some b) ∧ w'.heap.size = w.heap.size := by
  obtain ⟨D, h1, hs0, h2⟩ := h
  obtain ⟨w', hrun, h3, h4⟩ := h1.drop key3 Try.underlying34 (keyOf_int_mk Try.underlying3 hx) ty
  have hs : size (D.del (.int .i64 x)) = (l.erase x).length := by
    have e1 := size_del (k := .int .i64 x) (h1.tidy key3)
    rw [(h2 x).2] at e1
    by_cases hm : x ∈ l
    · rw [List.length_erase_of_mem hm]; simp [hm] at e1; omega
    · rw [List.erase_of_not_mem hm]; simp [hm] at e1; omega
  refine ⟨w', hrun, ⟨D.del (.int .i64 x), ?_, hs, fun y => ?_⟩, h4.grown, ?_⟩
  · obtain ⟨es, clock, hb, F, _, hD⟩ := h3
    refine ⟨es, clock, hb, F, ?_, hD⟩
    rw [← hs, hD]
    simp [size, length_sorted]
  · by_cases e : y = x
    · subst e
      have : y ∉ l.erase y := fun h => by simpa using (hn.mem_erase_iff.1 h).1
      exact ⟨by rw [atKey_del_same]; simp [this], by rw [has_del_same]; simp [this]⟩
    · have ne : (Lit.int .i64 y) ≠ .int .i64 x := fun h => e (by injection h)
      have : (y ∈ l.erase x) = (y ∈ l) := by simp [hn.mem_erase_iff, e]
      exact ⟨by rw [atKey_del_other ne, (h2 y).1]; simp [this], by rw [has_del_other ne, (h2 y).2]; simp [this]⟩
  · obtain ⟨_, _, _, _, _, rfl⟩ := h4
    simp [setBlock]

theorem isSet_len {w : World} {b : Nat} {l : List Int} (h : IsSet w b l) (ty : TypeId) : (Builtin.len_ #[34] ty #[.map (some b)]).run Try.prog w = .ok (.int .i64 l.length) w := by
  obtain ⟨D, h1, hs, _⟩ := h
  rw [h1.len Try.underlying34 ty, hs]

def ints (l : List Int) : List Value := l.map (Value.int .i64)

/-- A *work.List at block lb: its picks, what waits, how many Pops had something; S: the blocks that it has. -/
structure IsList (S : Nat → Prop) (w : World) (lb : Nat) (picks l : List Int) (pops : Nat) : Prop where
  ex : ∃ pv lv mb, w.heap[lb]? = some (.cells #[pv, lv, .map (some mb), .int .i64 pops] 39 (0, 0)) ∧
    w.ownsRow 0 3 1 pv picks.length (ints picks) ∧ w.ownsRow 0 3 1 lv l.length (ints l) ∧ IsSet w mb l ∧
    S lb ∧ S mb ∧ Own S pv ∧ Own S lv ∧ (∀ k, pv.ownBlock = some k → lv.ownBlock ≠ some k) ∧ l.Nodup

theorem IsList.move {S : Nat → Prop} {w w' : World} {lb : Nat} {picks l : List Int} {pops : Nat} (h : IsList S w lb picks l pops) (hm : ∀ k, S k → k < w.heap.size → w'.heap[k]? = w.heap[k]?) : IsList S w' lb picks l pops := by
  obtain ⟨pv, lv, mb, h1, h2, h3, h4, h5, h6, h7, h8, h9, h10⟩ := h.ex
  exact ⟨pv, lv, mb, (hm lb h5 (blk_at h1)).trans h1, row_move h2 (fun k hk => hm k (h7 k hk) (row_lt h2 hk)), row_move h3 (fun k hk => hm k (h8 k hk) (row_lt h3 hk)), isSet_move h4 (hm mb h6 (isSet_lt h4)), h5, h6, h7, h8, h9, h10⟩

theorem IsList.fr {S T : Nat → Prop} {w w' : World} {lb : Nat} {picks l : List Int} {pops : Nat} (h : IsList S w lb picks l pops) (hf : Fr T w w') (hST : ∀ k, S k → ¬ T k) : IsList S w' lb picks l pops :=
  h.move fun k hk hlt => hf.block k hlt (hST k hk)

theorem IsList.nodup {S : Nat → Prop} {w : World} {lb : Nat} {picks l : List Int} {pops : Nat} (h : IsList S w lb picks l pops) : l.Nodup := by
  obtain ⟨_, _, _, _, _, _, _, _, _, _, _, _, h⟩ := h.ex
  exact h

theorem len_nil (w : World) : Calls Try.prog 11 #[.pointer none] w fun e w' => e = .returned (.int .i64 0) ∧ w = w' := by
  go_enter Try.func11, Try.ntmps11
  go_wp2
  go_ret
  exact ⟨rfl, rfl⟩

theorem len_any {S : Nat → Prop} {w : World} {lb : Nat} {picks l : List Int} {pops : Nat} (h : IsList S w lb picks l pops) :
    Calls Try.prog 11 #[.pointer (some ⟨lb, 0, none⟩)] w fun e w' => e = .returned (.int .i64 l.length) ∧ w = w' := by
  obtain ⟨pv, lv, mb, h1, h2, h3, h4, h5, h6, h7, h8, h9, h10⟩ := h.ex
  obtain ⟨A, c, rfl⟩ := row_len h3
  have c1 : w.cell? ⟨lb, 1, none⟩ = some (.slice A l.length c) := blk_cells h1 1
  clear h h1 h2 h3 h4 h5 h6 h7 h8 h9 h10
  go_enter Try.func11, Try.ntmps11
  go_wp2
  go_ret
  exact ⟨rfl, rfl⟩

theorem pops_nil (w : World) : Calls Try.prog 12 #[.pointer none] w fun e w' => e = .returned (.int .i64 0) ∧ w = w' := by
  go_enter Try.func12, Try.ntmps12
  go_wp2
  go_ret
  exact ⟨rfl, rfl⟩

theorem pops_any {S : Nat → Prop} {w : World} {lb : Nat} {picks l : List Int} {pops : Nat} (h : IsList S w lb picks l pops) :
    Calls Try.prog 12 #[.pointer (some ⟨lb, 0, none⟩)] w fun e w' => e = .returned (.int .i64 pops) ∧ w = w' := by
  obtain ⟨pv, lv, mb, h1, h2, h3, h4, h5, h6, h7, h8, h9, h10⟩ := h.ex
  have c3 : w.cell? ⟨lb, 3, none⟩ = some (.int .i64 pops) := blk_cells h1 3
  clear h h1 h2 h3 h4 h5 h6 h7 h8 h9 h10
  go_enter Try.func12, Try.ntmps12
  go_wp2
  go_ret
  exact ⟨rfl, rfl⟩

end Go.Proofs.Ytkgjfkeaiiigfaa
