/- Package work: Push: what waits already stays, what does not comes behind the others. -/
import Derived.Test.YtkgjfkeaiiigfaaWork
namespace Go.Proofs.Ytkgjfkeaiiigfaa
open Go.RowKit Go.Maps Go.ChangeMaps Go.MapKept
set_option linter.unusedVariables false

theorem push_nil (n : Int) (w : World) : Calls Try.prog 9 #[.pointer none, .int .i64 n] w fun e w' => e = .returned (.bool false) ∧ w = w' := by
  go_enter Try.func9, Try.ntmps9
  go_wp2
  go_ret
  exact ⟨rfl, rfl⟩

theorem push_old {S : Nat → Prop} {w : World} {lb : Nat} {picks l : List Int} {pops : Nat} (h : IsList S w lb picks l pops) (n : Int) (hx : (Lit.int .i64 n).wf = true) (hn : n ∈ l) :
    Calls Try.prog 9 #[.pointer (some ⟨lb, 0, none⟩), .int .i64 n] w fun e w' => e = .returned (.bool false) ∧ w = w' := by
  obtain ⟨pv, lv, mb, h1, h2, h3, h4, h5, h6, h7, h8, h9, h10⟩ := h.ex
  have c2 : w.cell? ⟨lb, 2, none⟩ = some (.map (some mb)) := blk_cells h1 2
  have hl := isSet_look h4 n hx
  rw [decide_eq_true hn] at hl
  clear h h1 h2 h3 h4 h5 h6 h7 h8 h9 h10 hn hx
  go_enter Try.func9, Try.ntmps9
  go_wp2
  go_ret
  exact ⟨rfl, rfl⟩

theorem push_blk {w w2 : World} {lb : Nat} {cs : Array Value} {t : TypeId} {v : Value} {o : Obj} (h : w.heap[lb]? = some (.cells cs t (0, 0))) (hn : ∀ k, v.ownBlock = some k → k ≠ lb) (hg : (w.alloc o).grownBy w2 v.ownBlock) :
    w2.heap[lb]? = some (.cells cs t (0, 0)) :=
  (hg.block lb (by have := blk_at h; simp; omega) (fun e => hn lb e.symm rfl)).trans ((_root_.Go.heap_alloc_old w o (blk_at h)).trans h)

set_option maxHeartbeats 400000 in
theorem push_new {S : Nat → Prop} {w : World} {lb : Nat} {picks l : List Int} {pops : Nat} (h : IsList S w lb picks l pops) (n : Int) (hx : (Lit.int .i64 n).wf = true) (hn : n ∉ l) (hlen : l.length < 1099511627776) :
    Calls Try.prog 9 #[.pointer (some ⟨lb, 0, none⟩), .int .i64 n] w fun e w' => e = .returned (.bool true) ∧ IsList (fun k => S k ∨ (w.heap.size ≤ k ∧ k < w'.heap.size)) w' lb picks (l ++ [n]) pops ∧ Fr S w w' := by
  obtain ⟨pv, lv, mb, h1, h2, h3, h4, h5, h6, h7, h8, h9, h10⟩ := h.ex
  have c2 : w.cell? ⟨lb, 2, none⟩ = some (.map (some mb)) := blk_cells h1 2
  have hl := isSet_look h4 n hx
  rw [decide_eq_false hn] at hl
  obtain ⟨w1, hput, g4, hg, hsz⟩ := isSet_put h4 n hx (by unfold maxLen; omega)
  rw [if_neg hn] at g4
  have hmb : lb ≠ mb := by
    intro e; subst e
    obtain ⟨D, ⟨es, cl, q, _⟩, _, _⟩ := h4
    rw [h1] at q; cases q
  obtain ⟨D0, ⟨es0, cl0, hmap, _⟩, _, _⟩ := id h4
  have np := row_ne_map h2 hmap; have nlv := row_ne_map h3 hmap
  have lp := row_ne_blk h2 h1 (by decide); have llv := row_ne_blk h3 h1 (by decide)
  have k1 : w1.heap[lb]? = some (.cells #[pv, lv, .map (some mb), .int .i64 pops] 39 (0, 0)) := (hg.block lb (blk_at h1) (by simpa using hmb)).trans h1
  have r1 : w1.ownsRow 0 3 1 pv picks.length (ints picks) := row_move h2 fun k hk => hg.block k (row_lt h2 hk) (by simpa using np k hk)
  have r2 : w1.ownsRow 0 3 1 lv l.length (ints l) := row_move h3 fun k hk => hg.block k (row_lt h3 hk) (by simpa using nlv k hk)
  have d2 : w1.cell? ⟨lb, 2, none⟩ = some (.map (some mb)) := blk_cells k1 2
  have d1 : w1.cell? ⟨lb, 1, none⟩ = some lv := blk_cells k1 1
  have hlb := blk_at k1
  have fr1 : Fr S w w1 := (Fr.refl S w).grown hg (fun b hb => .inl (by cases hb; exact h6))
  obtain ⟨i0, hi, hz0, hz1, hz2⟩ := info_parts info3
  have H1 := Lib.hid h1; have H2 := Lib.hid h2; have H3 := Lib.hid h3; have H4 := Lib.hid h4; have K1 := Lib.hid k1; have HR := Lib.hid r1; have HR2 := Lib.hid r2
  have N1 := Lib.hid np; have N2 := Lib.hid nlv; have N3 := Lib.hid lp; have N4 := Lib.hid llv; have H9 := Lib.hid h9; have HG := Lib.hid hg; have HS := Lib.hid hsz; have F1 := Lib.hid fr1; have G4 := Lib.hid g4
  have H7 := Lib.hid h7; have H8 := Lib.hid h8
  clear h h1 h2 h3 h4 k1 r1 r2 np nlv lp llv h9 hg hsz fr1 g4 hmap h7 h8
  go_enter Try.func9, Try.ntmps9
  go_wp2_with (first
    | (at_builtin; refine wpList_append_own_at _ rfl _ _ 22 rfl 0 3 i0 (.int .i64 0) 1 8 Try.underlying22 hi hz0 hz1 hz2 rfl (by decide) lv l.length (ints l) rfl (HR2.out.alloc _) ⟨w1.heap.size, 0, none⟩ 1 1 [.int .i64 n] rfl rfl (one_cell _ _ _) (one_int _ _) (by unfold maxLen; omega) (by omega) (Nat.zero_le _) ?_; intro v' w2 hown hgrow hnn hat; clear hnn; obtain ⟨A', c', rfl⟩ := row_len hown; have k2 := push_blk K1.out N4.out hgrow; have q1 := blk_cells k2 1; have q2 := blk_free k2 1; simp only [List.getElem?_toArray, List.getElem?_cons_succ, List.getElem?_cons_zero] at q1; have HO := Lib.hid hown; have HG2 := Lib.hid hgrow; have K2 := Lib.hid k2; have HAT := Lib.hid hat; clear hown hgrow k2 hat)
    | go_in)
  go_ret
  have hm : ∀ k, k < w1.heap.size → k ≠ lb → (∀ b, lv.ownBlock = some b → b ≠ k) → (w2.setCell ⟨lb, 1, none⟩ (.slice A' (l.length + 1) c')).heap[k]? = w1.heap[k]? := fun k hk h1 h2 =>
    (blk_off h1 _).trans ((HG2.out.block k (by simp; omega) (fun e => h2 k e.symm rfl)).trans (_root_.Go.heap_alloc_old w1 _ hk))
  have hsz := HS.out
  have hnew := row_ne_blk HO.out K2.out (by decide)
  have hat : ∀ k, (Value.slice A' (l.length + 1) c').ownBlock = some k → lv.ownBlock = some k ∨ w.heap.size ≤ k := fun k hk => by
    rcases HAT.out with h | h
    · exact .inl (h.symm.trans hk)
    · rw [hk] at h; injection h with h; simp at h; exact .inr (by omega)
  refine ⟨rfl, ⟨pv, _, mb, blk_put K2.out 1 _, ?_, ?_, ?_, .inl h5, .inl h6, ?_, ?_, ?_, ?_⟩, ?_⟩
  · exact row_move HR.out fun k hk => hm k (row_lt HR.out hk) (N3.out k hk) (fun b hb e => H9.out k hk (e ▸ hb))
  · simpa [ints] using row_move HO.out fun k hk => blk_off (p := ⟨lb, 1, none⟩) (hnew k hk) _
  · exact isSet_move G4.out (hm mb (isSet_lt G4.out) (fun e => hmb e.symm) (fun b hb => N2.out b hb))
  · exact fun k hk => .inl (H7.out k hk)
  · intro k hk
    rcases hat k hk with h | h
    · exact .inl (H8.out k h)
    · exact .inr ⟨h, by simpa using row_lt HO.out hk⟩
  · intro k hk hk'
    rcases hat k (by simpa using hk') with h | h
    · exact H9.out k hk h
    · have := row_lt H2.out hk; omega
  · exact List.nodup_append.2 ⟨h10, by simp, by simp; intro a ha e; exact hn (e ▸ ha)⟩
  · refine ((F1.out.alloc _).grown HG2.out (fun b hb => .inl (H8.out b hb))).setCell (.inl h5) _

end Go.Proofs.Ytkgjfkeaiiigfaa
