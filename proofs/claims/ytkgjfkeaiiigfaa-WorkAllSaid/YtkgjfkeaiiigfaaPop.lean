/- Package work: Pop: what stands at the pick's place goes, the others stay in order. -/
import Derived.Test.YtkgjfkeaiiigfaaPush
namespace Go.Proofs.Ytkgjfkeaiiigfaa
open Go.RowKit Go.Maps Go.ChangeMaps Go.MapKept Go.Sort
set_option linter.unusedVariables false

theorem heap_putRow {w : World} {g n : Nat} {cur : Array Value} {e : TypeId} {fr : Nat × Nat} (d : Array Int) (hb : w.heap[g]? = some (.cells cur e fr)) :
    (putRow (Value.int .i64) (Sort.ahead w n) g 0 d).heap[g]? = some (.cells (putCells (Value.int .i64) 0 d cur) e fr) := by
  simp [putRow, mapBlock, Sort.ahead, Array.getElem?_modify, hb, onCells]

theorem fr_putRow {w : World} {g n : Nat} (d : Array Int) : Fr (· = g) w (putRow (Value.int .i64) (Sort.ahead w n) g 0 d) := by
  refine ⟨rfl, rfl, rfl, by simp [Sort.ahead], fun k hk hne => ?_⟩
  have : g ≠ k := fun e => hne e.symm
  simp [putRow, mapBlock, Sort.ahead, Array.getElem?_modify, this]

theorem take_put (cur : Array Value) (ts : List Int) (m : Nat) (h : ts.length ≤ cur.size) (hm : m ≤ ts.length) : (putCells (Value.int .i64) 0 ts.toArray cur).toList.take m = ints (ts.take m) := by
  apply List.ext_getElem?
  intro j
  by_cases hj : j < m
  · rw [List.getElem?_take_of_lt hj, Array.getElem?_toList]
    simp [putCells, ints, hj, show j < ts.length by omega, show j < cur.size by omega]
  · rw [List.getElem?_take_eq_none (by omega), List.getElem?_eq_none (by simp [ints]; omega)]

theorem delete_row {W : World} {g n cap i : Nat} {l : List Int} (hown : W.ownsRow 0 3 1 (.slice (some ⟨g, 0, none⟩) n cap) n (ints l)) (hi : i < n) (a b : Int) (ha : a = i) (hb : b = i + 1) :
    Calls Try.prog 14 #[.slice (some ⟨g, 0, none⟩) n cap, .int .i64 a, .int .i64 b] W fun e w' => e = .returned (.slice (some ⟨g, 0, none⟩) (n - 1) cap) ∧
      w'.ownsRow 0 3 1 (.slice (some ⟨g, 0, none⟩) (n - 1) cap) (n - 1) (ints (l.eraseIdx i)) ∧ Fr (· = g) W w' ∧ w'.heap.size = W.heap.size := by
  subst ha
  obtain rfl : b = ((i + 1 : Nat) : Int) := by omega
  rcases hown.2 with ⟨h0, _⟩ | ⟨g', cap', cur, hv, _, hg, hnc, hcm, hcs, htake⟩
  · cases h0
  cases hv
  have hl : l.length = n := by have := hown.1; simpa [ints] using this
  have hH : Holds (Value.int .i64) W g 0 l.toArray := by
    intro j hj
    have hj' : j < l.length := by simpa using hj
    refine ⟨?_, by simp [World.frozen?, hg]⟩
    rw [Nat.zero_add, cell_of_row W g j cur 3 (0, 0) hg, ← Array.getElem?_toList, ← List.getElem?_take_of_lt (show j < n * 1 by omega), htake]
    simp [ints, hj']
  subst hl
  refine (Try.slices_Delete_int g 0 cap i (i + 1) l W hH hnc (by unfold maxLen at hcm; omega) (by omega) hi).mono ?_
  rintro e w' ⟨rfl, q, rfl⟩
  have e1 : i + 1 - i = 1 := by omega
  have e2 : (l.take i ++ l.drop (i + 1) ++ List.replicate (i + 1 - i) 0).length = l.length := by simp; omega
  refine ⟨by rw [e1], ⟨by simp [ints, List.length_eraseIdx, hi], .inr ⟨g, cap, _, rfl, Nat.zero_le _, heap_putRow _ hg, by omega, hcm, by simp [putCells, hcs], ?_⟩⟩, fr_putRow _, by simp [Sort.ahead]⟩
  rw [Nat.mul_one, take_put cur _ (l.length - 1) (by rw [e2]; omega) (by rw [e2]; omega), List.take_append_of_le_length (by simp; omega), List.take_of_length_le (by simp; omega), List.eraseIdx_eq_take_drop_succ]

theorem wpList_set_drop {ops : Array Oper} {rest : List Oper} {o : Oper} {a : Act} {Q : Exit → Act → World → Prop} (w : World) (hg : o.guard = none) (m x : Operand)
    (hop : o.op = Op.call { callee := Callee.builtin Builtin.delete, args := #[m, x], argTypes := #[34, 3] }) (b : Nat) (l : List Int) (v : Int)
    (hm : a.eval m = .map (some b)) (h : IsSet w b l) (hx : a.eval x = .int .i64 v) (hw : (Lit.int .i64 v).wf = true) (hn : l.Nodup)
    (hK : ∀ w', IsSet w' b (l.erase v) → w.grownBy w' (some b) → w'.heap.size = w.heap.size → wpList Try.prog ops Q rest (a.put o.dst (.tuple #[])) w') : wpList Try.prog ops Q (o :: rest) a w := by
  refine wpList_plain hg fun K' hK' => ?_
  obtain ⟨w', hrun, r1, r2, r3⟩ := isSet_drop h v hw hn o.type
  unfold Oper.wp
  simp [execOp, hop, resolve, invoke, builtin, hm, hx, hrun, Result.andThen]
  exact hK' _ _ (hK w' r1 r2 r3)

/-- which of n that wait goes -/
def place (picks : List Int) (pops n : Nat) : Nat := if pops < picks.length ∧ 0 ≤ picks.getD pops 0 then (picks.getD pops 0 % n).toNat else 0
theorem place_lt (picks : List Int) (pops n : Nat) (hn : 0 < n) : place picks pops n < n := by
  unfold place
  split
  · have := Int.emod_lt_of_pos (picks.getD pops 0) (show (0 : Int) < n by omega)
    have := Int.emod_nonneg (picks.getD pops 0) (show (n : Int) ≠ 0 by omega)
    omega
  · exact hn

theorem pop_nil (w : World) : Calls Try.prog 10 #[.pointer none] w fun e w' => e = .returned (.tuple #[.int .i64 0, .bool false]) ∧ w = w' := by
  go_enter Try.func10, Try.ntmps10
  go_wp2
  go_ret2
  exact ⟨rfl, rfl⟩

theorem pop_empty {S : Nat → Prop} {w : World} {lb : Nat} {picks : List Int} {pops : Nat} (h : IsList S w lb picks [] pops) :
    Calls Try.prog 10 #[.pointer (some ⟨lb, 0, none⟩)] w fun e w' => e = .returned (.tuple #[.int .i64 0, .bool false]) ∧ w = w' := by
  obtain ⟨pv, lv, mb, h1, h2, h3, h4, h5, h6, h7, h8, h9, h10⟩ := h.ex
  obtain ⟨A, c, rfl⟩ := row_len h3
  have c1 : w.cell? ⟨lb, 1, none⟩ = some (.slice A 0 c) := blk_cells h1 1
  clear h h1 h2 h3 h4 h5 h6 h7 h8 h9 h10
  go_enter Try.func10, Try.ntmps10
  go_wp2
  go_ret2
  exact ⟨rfl, rfl⟩

-- CASES
theorem erase_nodup : ∀ (l : List Int) (n : Nat) (h : n < l.length), l.Nodup → l.erase l[n] = l.eraseIdx n
  | a :: l, 0, _, _ => by simp
  | a :: l, n + 1, h, hn => by
    have hl : n < l.length := by simpa using h
    have h1 := List.nodup_cons.1 hn
    have ne : (a == l[n]) = false := by rw [beq_eq_false_iff_ne]; exact fun e => h1.1 (e ▸ List.getElem_mem hl)
    rw [List.getElem_cons_succ, List.erase_cons_tail (by simp [ne]), List.eraseIdx_cons_succ, erase_nodup l n hl h1.2]
theorem pop_close {A B : Value} {l : List Int} {n : Nat} (h9 : ∀ k, A.ownBlock = some k → B.ownBlock ≠ some k) (h10 : l.Nodup) (hn : n < l.length) :
    (∀ k, A.ownBlock = some k → B.ownBlock ≠ some k) ∧ (l.eraseIdx n).Nodup ∧ l.erase (l.getD n 0) = l.eraseIdx n := by
  refine ⟨h9, h10.sublist (List.eraseIdx_sublist _ _), ?_⟩
  rw [List.getD_eq_getElem?_getD, List.getElem?_eq_getElem hn, Option.getD_some]
  exact erase_nodup l n hn h10

set_option maxHeartbeats 1000000 in
theorem pop_pick {S : Nat → Prop} {w : World} {lb : Nat} {picks l : List Int} {pops : Nat} (h : IsList S w lb picks l pops) (hl : 0 < l.length) (hlen : l.length < 1099511627776)
    (hp : pops < picks.length) (hpick : 0 ≤ picks.getD pops 0) (hpl : picks.length < 1099511627776) (hpops : pops < 1099511627776) (hw : ∀ x ∈ l, (Lit.int .i64 x).wf = true) (at_ : Nat) (hatl : at_ < l.length) (hat : picks.getD pops 0 % l.length = at_) :
    Calls Try.prog 10 #[.pointer (some ⟨lb, 0, none⟩)] w fun e w' => e = .returned (.tuple #[.int .i64 (l.getD at_ 0), .bool true]) ∧ IsList S w' lb picks (l.eraseIdx at_) (pops + 1) ∧ Fr S w w' := by
  obtain ⟨pv, lv, mb, h1, h2, h3, h4, h5, h6, h7, h8, h9, h10⟩ := h.ex
  obtain ⟨pb, pc, rfl, _, hpb, hpc, _, pcell, _⟩ := row_form h2 (by omega)
  have np := row_ne_blk h2 h1 (by decide) pb rfl
  obtain ⟨g, cap, rfl, _, hgb, hgc, hgm, gcell, gfree⟩ := row_form h3 hl
  have ng := row_ne_blk h3 h1 (by decide) g rfl
  obtain ⟨D0, ⟨es0, cl0, hmap, _⟩, _, _⟩ := id h4
  have mg := row_ne_map h3 hmap g rfl
  have ml : lb ≠ mb := fun e => by subst e; rw [h1] at hmap; cases hmap
  have gp : g ≠ pb := fun e => h9 pb rfl (by rw [e]; rfl)
  have mp := row_ne_map h2 hmap pb rfl
  generalize hx : picks.getD pops 0 = x at *
  have hk1 : (at_ : Int) < l.length := by omega
  have hxl : l.getD at_ 0 ∈ l := by rw [List.getD_eq_getElem?_getD, List.getElem?_eq_getElem hatl]; exact List.getElem_mem hatl
  have hwx := hw _ hxl
  have ca : w.cell? ⟨g, at_, none⟩ = some (.int .i64 (l.getD at_ 0)) := by
    rw [gcell at_ hatl, List.getD_eq_getElem?_getD]
    simp [ints, List.getElem?_eq_getElem hatl]
  have hclose := pop_close h9 h10 hatl
  generalize hy : l.getD at_ 0 = y at *
  have cp : w.cell? ⟨pb, pops, none⟩ = some (.int .i64 x) := by
    rw [pcell pops hp, ← hx, List.getD_eq_getElem?_getD]
    simp [ints, List.getElem?_eq_getElem hp]
  have c0 : w.cell? ⟨lb, 0, none⟩ = some (.slice (some ⟨pb, 0, none⟩) picks.length pc) := blk_cells h1 0
  have c1 : w.cell? ⟨lb, 1, none⟩ = some (.slice (some ⟨g, 0, none⟩) l.length cap) := blk_cells h1 1
  have c2 : w.cell? ⟨lb, 2, none⟩ = some (.map (some mb)) := blk_cells h1 2
  have c3 : w.cell? ⟨lb, 3, none⟩ = some (.int .i64 pops) := blk_cells h1 3
  have f1 := blk_free h1 1
  have f3 := blk_free h1 3
  have hl0 : ((l.length : Int) == 0) = false := by rw [beq_eq_false_iff_ne]; omega
  have H1 := Lib.hid h1; have H2 := Lib.hid h2; have H3 := Lib.hid h3; have H4 := Lib.hid h4; have HX := Lib.hid hx; have HY := Lib.hid hy; have HM := Lib.hid hmap; have H7 := Lib.hid h7; have H8 := Lib.hid h8; have HC := Lib.hid hclose; have H10 := Lib.hid h10
  clear h h1 h2 h3 h4 hx hy h9 hmap h7 h8 hw gcell gfree hxl hclose h10 pcell
  go_enter Try.func10, Try.ntmps10
  go_wp2_with fail
  go_quiet (fail)
  go_wp2_with fail
  go_quiet (fail)
  go_wp2_with fail
  refine (delete_row (i := at_) (by exact row_move H3.out (fun k hk => blk_off (p := ⟨lb, 3, none⟩) (by cases hk; exact ng) _)) hatl _ _ (by simp) (by simp)).mono ?_
  rintro e w3 ⟨rfl, ho3, hf3, hz3⟩
  have k3 := (hf3.block lb (by simp; exact blk_at H1.out) (fun e => ng e.symm)).trans (blk_put H1.out 3 (.int .i64 ((pops : Int) + 1)))
  have d1 := blk_cells k3 1
  have d2 := blk_cells k3 2
  have fd := blk_free k3 1
  have hlb3 := blk_at k3
  have fr3 : Fr S w w3 := by
    refine Fr.trans ?_ hf3 (fun b hb => .inl (by have e : b = g := hb; subst e; exact H8.out _ rfl))
    exact ((Fr.refl S w).drewN _).setCell (p := ⟨lb, 3, none⟩) (.inl h5) _
  have s3 : IsSet w3 mb l := isSet_move (isSet_move H4.out (blk_off (p := ⟨lb, 3, none⟩) (fun e => ml e.symm) (.int .i64 ((pops : Int) + 1)))) (hf3.block mb (by simpa using isSet_lt H4.out) (fun e => mg e.symm))
  have p3 := row_move (row_move H2.out (fun k hk => blk_off (p := ⟨lb, 3, none⟩) (by cases hk; exact np) (.int .i64 ((pops : Int) + 1)))) (fun k hk => hf3.block k (by simpa using row_lt H2.out hk) (by cases hk; exact fun e => gp e.symm))
  have ko := row_ne_blk ho3 k3 (by decide) g rfl
  simp only [List.getElem?_toArray, List.setIfInBounds_toArray, List.set_cons_succ, List.set_cons_zero, List.getElem?_cons_succ, List.getElem?_cons_zero] at d1 d2
  have K3 := Lib.hid k3; have O3 := Lib.hid ho3; have F3 := Lib.hid fr3; have S3 := Lib.hid s3; have Z3 := Lib.hid hz3; have P3 := Lib.hid p3
  clear k3 ho3 fr3 s3 hf3 hz3 p3
  go_wp2_with (first
    | (at_delete; refine wpList_set_drop _ rfl _ _ rfl mb l y rfl (isSet_move S3.out (blk_off (p := ⟨lb, 1, none⟩) (fun e => ml e.symm) _)) rfl hwx H10.out ?_; intro w4 s4 g4 z4; have S4 := Lib.hid s4; have G4 := Lib.hid g4; have Z4 := Lib.hid z4; clear s4 g4 z4)
    | go_in)
  go_ret2
  have hm : ∀ k, k < w3.heap.size → k ≠ lb → k ≠ mb → w4.heap[k]? = w3.heap[k]? := fun k hk h1 h2 =>
    (G4.out.block k (by simpa using hk) (by simpa using h2)).trans (blk_off h1 _)
  have hblk : w4.heap[lb]? = some (.cells #[_, .slice (some ⟨g, 0, none⟩) (l.length - 1) cap, .map (some mb), .int .i64 ((pops : Int) + 1)] 39 (0, 0)) :=
    (G4.out.block lb (by simpa using hlb3) (by simpa using ml)).trans (blk_put K3.out 1 (.slice (some ⟨g, 0, none⟩) (l.length - 1) cap))
  have hln : (l.eraseIdx at_).length = l.length - 1 := List.length_eraseIdx_of_lt hatl
  refine ⟨by simp, ⟨_, _, mb, hblk, row_move P3.out (fun k hk => hm k (row_lt P3.out hk) (row_ne_blk P3.out K3.out (by decide) k hk) ?_), ?_, ?_, h5, h6, H7.out, H8.out, HC.out.1, HC.out.2.1⟩, ?_⟩
  · exact by cases hk; exact mp
  · rw [hln]
    exact row_move O3.out fun k hk => hm k (row_lt O3.out hk) (by cases hk; exact ng) (by cases hk; exact mg)
  · have := S4.out
    rw [HC.out.2.2] at this
    exact this
  · exact (F3.out.setCell (p := ⟨lb, 1, none⟩) (.inl h5) _).grown G4.out (fun b hb => .inl (by cases hb; exact h6))

set_option maxHeartbeats 1000000 in
theorem pop_neg {S : Nat → Prop} {w : World} {lb : Nat} {picks l : List Int} {pops : Nat} (h : IsList S w lb picks l pops) (hl : 0 < l.length) (hlen : l.length < 1099511627776)
    (hp : pops < picks.length) (hpick : ¬ 0 ≤ picks.getD pops 0) (hpl : picks.length < 1099511627776) (hpops : pops < 1099511627776) (hw : ∀ x ∈ l, (Lit.int .i64 x).wf = true) (at_ : Nat) (hatl : at_ < l.length) (hat : at_ = 0) :
    Calls Try.prog 10 #[.pointer (some ⟨lb, 0, none⟩)] w fun e w' => e = .returned (.tuple #[.int .i64 (l.getD at_ 0), .bool true]) ∧ IsList S w' lb picks (l.eraseIdx at_) (pops + 1) ∧ Fr S w w' := by
  obtain ⟨pv, lv, mb, h1, h2, h3, h4, h5, h6, h7, h8, h9, h10⟩ := h.ex
  obtain ⟨pb, pc, rfl, _, hpb, hpc, _, pcell, _⟩ := row_form h2 (by omega)
  have np := row_ne_blk h2 h1 (by decide) pb rfl
  obtain ⟨g, cap, rfl, _, hgb, hgc, hgm, gcell, gfree⟩ := row_form h3 hl
  have ng := row_ne_blk h3 h1 (by decide) g rfl
  obtain ⟨D0, ⟨es0, cl0, hmap, _⟩, _, _⟩ := id h4
  have mg := row_ne_map h3 hmap g rfl
  have ml : lb ≠ mb := fun e => by subst e; rw [h1] at hmap; cases hmap
  have gp : g ≠ pb := fun e => h9 pb rfl (by rw [e]; rfl)
  have mp := row_ne_map h2 hmap pb rfl
  generalize hx : picks.getD pops 0 = x at *
  subst hat
  have hpick' : decide (0 ≤ x) = false := decide_eq_false hpick
  have hk1 : (0 : Int) < l.length := by omega
  have hxl : l.getD 0 0 ∈ l := by rw [List.getD_eq_getElem?_getD, List.getElem?_eq_getElem hatl]; exact List.getElem_mem hatl
  have hwx := hw _ hxl
  have ca : w.cell? ⟨g, 0, none⟩ = some (.int .i64 (l.getD 0 0)) := by
    rw [gcell 0 hatl, List.getD_eq_getElem?_getD]
    simp [ints, List.getElem?_eq_getElem hatl]
  have hclose := pop_close h9 h10 hatl
  generalize hy : l.getD 0 0 = y at *
  have cp : w.cell? ⟨pb, pops, none⟩ = some (.int .i64 x) := by
    rw [pcell pops hp, ← hx, List.getD_eq_getElem?_getD]
    simp [ints, List.getElem?_eq_getElem hp]
  have c0 : w.cell? ⟨lb, 0, none⟩ = some (.slice (some ⟨pb, 0, none⟩) picks.length pc) := blk_cells h1 0
  have c1 : w.cell? ⟨lb, 1, none⟩ = some (.slice (some ⟨g, 0, none⟩) l.length cap) := blk_cells h1 1
  have c2 : w.cell? ⟨lb, 2, none⟩ = some (.map (some mb)) := blk_cells h1 2
  have c3 : w.cell? ⟨lb, 3, none⟩ = some (.int .i64 pops) := blk_cells h1 3
  have f1 := blk_free h1 1
  have f3 := blk_free h1 3
  have hl0 : ((l.length : Int) == 0) = false := by rw [beq_eq_false_iff_ne]; omega
  have H1 := Lib.hid h1; have H2 := Lib.hid h2; have H3 := Lib.hid h3; have H4 := Lib.hid h4; have HX := Lib.hid hx; have HY := Lib.hid hy; have HM := Lib.hid hmap; have H7 := Lib.hid h7; have H8 := Lib.hid h8; have HC := Lib.hid hclose; have H10 := Lib.hid h10
  clear h h1 h2 h3 h4 hx hy h9 hmap h7 h8 hw gcell gfree hxl hclose h10 pcell
  go_enter Try.func10, Try.ntmps10
  go_wp2_with fail
  go_quiet (fail)
  go_wp2_with fail
  refine (delete_row (i := 0) (by exact row_move H3.out (fun k hk => blk_off (p := ⟨lb, 3, none⟩) (by cases hk; exact ng) _)) hatl _ _ (by simp) (by simp)).mono ?_
  rintro e w3 ⟨rfl, ho3, hf3, hz3⟩
  have k3 := (hf3.block lb (by simp; exact blk_at H1.out) (fun e => ng e.symm)).trans (blk_put H1.out 3 (.int .i64 ((pops : Int) + 1)))
  have d1 := blk_cells k3 1
  have d2 := blk_cells k3 2
  have fd := blk_free k3 1
  have hlb3 := blk_at k3
  have fr3 : Fr S w w3 := by
    refine Fr.trans ?_ hf3 (fun b hb => .inl (by have e : b = g := hb; subst e; exact H8.out _ rfl))
    exact ((Fr.refl S w).drewN _).setCell (p := ⟨lb, 3, none⟩) (.inl h5) _
  have s3 : IsSet w3 mb l := isSet_move (isSet_move H4.out (blk_off (p := ⟨lb, 3, none⟩) (fun e => ml e.symm) (.int .i64 ((pops : Int) + 1)))) (hf3.block mb (by simpa using isSet_lt H4.out) (fun e => mg e.symm))
  have p3 := row_move (row_move H2.out (fun k hk => blk_off (p := ⟨lb, 3, none⟩) (by cases hk; exact np) (.int .i64 ((pops : Int) + 1)))) (fun k hk => hf3.block k (by simpa using row_lt H2.out hk) (by cases hk; exact fun e => gp e.symm))
  have ko := row_ne_blk ho3 k3 (by decide) g rfl
  simp only [List.getElem?_toArray, List.setIfInBounds_toArray, List.set_cons_succ, List.set_cons_zero, List.getElem?_cons_succ, List.getElem?_cons_zero] at d1 d2
  have K3 := Lib.hid k3; have O3 := Lib.hid ho3; have F3 := Lib.hid fr3; have S3 := Lib.hid s3; have Z3 := Lib.hid hz3; have P3 := Lib.hid p3
  clear k3 ho3 fr3 s3 hf3 hz3 p3
  go_wp2_with (first
    | (at_delete; refine wpList_set_drop _ rfl _ _ rfl mb l y rfl (isSet_move S3.out (blk_off (p := ⟨lb, 1, none⟩) (fun e => ml e.symm) _)) rfl hwx H10.out ?_; intro w4 s4 g4 z4; have S4 := Lib.hid s4; have G4 := Lib.hid g4; have Z4 := Lib.hid z4; clear s4 g4 z4)
    | go_in)
  go_ret2
  have hm : ∀ k, k < w3.heap.size → k ≠ lb → k ≠ mb → w4.heap[k]? = w3.heap[k]? := fun k hk h1 h2 =>
    (G4.out.block k (by simpa using hk) (by simpa using h2)).trans (blk_off h1 _)
  have hblk : w4.heap[lb]? = some (.cells #[_, .slice (some ⟨g, 0, none⟩) (l.length - 1) cap, .map (some mb), .int .i64 ((pops : Int) + 1)] 39 (0, 0)) :=
    (G4.out.block lb (by simpa using hlb3) (by simpa using ml)).trans (blk_put K3.out 1 (.slice (some ⟨g, 0, none⟩) (l.length - 1) cap))
  have hln : (l.eraseIdx 0).length = l.length - 1 := List.length_eraseIdx_of_lt hatl
  refine ⟨by simp, ⟨_, _, mb, hblk, row_move P3.out (fun k hk => hm k (row_lt P3.out hk) (row_ne_blk P3.out K3.out (by decide) k hk) ?_), ?_, ?_, h5, h6, H7.out, H8.out, HC.out.1, HC.out.2.1⟩, ?_⟩
  · exact by cases hk; exact mp
  · rw [hln]
    exact row_move O3.out fun k hk => hm k (row_lt O3.out hk) (by cases hk; exact ng) (by cases hk; exact mg)
  · have := S4.out
    rw [HC.out.2.2] at this
    exact this
  · exact (F3.out.setCell (p := ⟨lb, 1, none⟩) (.inl h5) _).grown G4.out (fun b hb => .inl (by cases hb; exact h6))

set_option maxHeartbeats 1000000 in
theorem pop_none {S : Nat → Prop} {w : World} {lb : Nat} {picks l : List Int} {pops : Nat} (h : IsList S w lb picks l pops) (hl : 0 < l.length) (hlen : l.length < 1099511627776)
    (hp : ¬ pops < picks.length) (hpl : picks.length < 1099511627776) (hpops : pops < 1099511627776) (hw : ∀ x ∈ l, (Lit.int .i64 x).wf = true) (at_ : Nat) (hatl : at_ < l.length) (hat : at_ = 0) :
    Calls Try.prog 10 #[.pointer (some ⟨lb, 0, none⟩)] w fun e w' => e = .returned (.tuple #[.int .i64 (l.getD at_ 0), .bool true]) ∧ IsList S w' lb picks (l.eraseIdx at_) (pops + 1) ∧ Fr S w w' := by
  obtain ⟨pv, lv, mb, h1, h2, h3, h4, h5, h6, h7, h8, h9, h10⟩ := h.ex
  obtain ⟨pA, pc, rfl⟩ := row_len h2
  obtain ⟨g, cap, rfl, _, hgb, hgc, hgm, gcell, gfree⟩ := row_form h3 hl
  have ng := row_ne_blk h3 h1 (by decide) g rfl
  obtain ⟨D0, ⟨es0, cl0, hmap, _⟩, _, _⟩ := id h4
  have mg := row_ne_map h3 hmap g rfl
  have ml : lb ≠ mb := fun e => by subst e; rw [h1] at hmap; cases hmap
  have hx : True := trivial
  subst hat
  have hp' : decide ((pops : Int) < (picks.length : Int)) = false := decide_eq_false (by omega)
  have mp := row_ne_map h2 hmap
  have pp : ∀ k, (Value.slice pA picks.length pc).ownBlock = some k → k ≠ g := fun k hk e => h9 k hk (by rw [e]; rfl)
  have np := row_ne_blk h2 h1 (by decide)
  have PP := Lib.hid pp; have MP := Lib.hid mp; have NP := Lib.hid np
  clear pp mp np
  have hk1 : (0 : Int) < l.length := by omega
  have hxl : l.getD 0 0 ∈ l := by rw [List.getD_eq_getElem?_getD, List.getElem?_eq_getElem hatl]; exact List.getElem_mem hatl
  have hwx := hw _ hxl
  have ca : w.cell? ⟨g, 0, none⟩ = some (.int .i64 (l.getD 0 0)) := by
    rw [gcell 0 hatl, List.getD_eq_getElem?_getD]
    simp [ints, List.getElem?_eq_getElem hatl]
  have hclose := pop_close h9 h10 hatl
  generalize hy : l.getD 0 0 = y at *
  have c0 : w.cell? ⟨lb, 0, none⟩ = some (.slice pA picks.length pc) := blk_cells h1 0
  have c1 : w.cell? ⟨lb, 1, none⟩ = some (.slice (some ⟨g, 0, none⟩) l.length cap) := blk_cells h1 1
  have c2 : w.cell? ⟨lb, 2, none⟩ = some (.map (some mb)) := blk_cells h1 2
  have c3 : w.cell? ⟨lb, 3, none⟩ = some (.int .i64 pops) := blk_cells h1 3
  have f1 := blk_free h1 1
  have f3 := blk_free h1 3
  have hl0 : ((l.length : Int) == 0) = false := by rw [beq_eq_false_iff_ne]; omega
  have H1 := Lib.hid h1; have H2 := Lib.hid h2; have H3 := Lib.hid h3; have H4 := Lib.hid h4; have HX := Lib.hid hx; have HY := Lib.hid hy; have HM := Lib.hid hmap; have H7 := Lib.hid h7; have H8 := Lib.hid h8; have HC := Lib.hid hclose; have H10 := Lib.hid h10
  clear h h1 h2 h3 h4 hx hy h9 hmap h7 h8 hw gcell gfree hxl hclose h10 
  go_enter Try.func10, Try.ntmps10
  go_wp2_with fail
  go_quiet (fail)
  go_wp2_with fail
  refine (delete_row (i := 0) (by exact row_move H3.out (fun k hk => blk_off (p := ⟨lb, 3, none⟩) (by cases hk; exact ng) _)) hatl _ _ (by simp) (by simp)).mono ?_
  rintro e w3 ⟨rfl, ho3, hf3, hz3⟩
  have k3 := (hf3.block lb (by simp; exact blk_at H1.out) (fun e => ng e.symm)).trans (blk_put H1.out 3 (.int .i64 ((pops : Int) + 1)))
  have d1 := blk_cells k3 1
  have d2 := blk_cells k3 2
  have fd := blk_free k3 1
  have hlb3 := blk_at k3
  have fr3 : Fr S w w3 := by
    refine Fr.trans ?_ hf3 (fun b hb => .inl (by have e : b = g := hb; subst e; exact H8.out _ rfl))
    exact ((Fr.refl S w).drewN _).setCell (p := ⟨lb, 3, none⟩) (.inl h5) _
  have s3 : IsSet w3 mb l := isSet_move (isSet_move H4.out (blk_off (p := ⟨lb, 3, none⟩) (fun e => ml e.symm) (.int .i64 ((pops : Int) + 1)))) (hf3.block mb (by simpa using isSet_lt H4.out) (fun e => mg e.symm))
  have p3 := row_move (row_move H2.out (fun k hk => blk_off (p := ⟨lb, 3, none⟩) (NP.out k hk) (.int .i64 ((pops : Int) + 1)))) (fun k hk => hf3.block k (by simpa using row_lt H2.out hk) (PP.out k hk))
  have ko := row_ne_blk ho3 k3 (by decide) g rfl
  simp only [List.getElem?_toArray, List.setIfInBounds_toArray, List.set_cons_succ, List.set_cons_zero, List.getElem?_cons_succ, List.getElem?_cons_zero] at d1 d2
  have K3 := Lib.hid k3; have O3 := Lib.hid ho3; have F3 := Lib.hid fr3; have S3 := Lib.hid s3; have Z3 := Lib.hid hz3; have P3 := Lib.hid p3
  clear k3 ho3 fr3 s3 hf3 hz3 p3
  go_wp2_with (first
    | (at_delete; refine wpList_set_drop _ rfl _ _ rfl mb l y rfl (isSet_move S3.out (blk_off (p := ⟨lb, 1, none⟩) (fun e => ml e.symm) _)) rfl hwx H10.out ?_; intro w4 s4 g4 z4; have S4 := Lib.hid s4; have G4 := Lib.hid g4; have Z4 := Lib.hid z4; clear s4 g4 z4)
    | go_in)
  go_ret2
  have hm : ∀ k, k < w3.heap.size → k ≠ lb → k ≠ mb → w4.heap[k]? = w3.heap[k]? := fun k hk h1 h2 =>
    (G4.out.block k (by simpa using hk) (by simpa using h2)).trans (blk_off h1 _)
  have hblk : w4.heap[lb]? = some (.cells #[_, .slice (some ⟨g, 0, none⟩) (l.length - 1) cap, .map (some mb), .int .i64 ((pops : Int) + 1)] 39 (0, 0)) :=
    (G4.out.block lb (by simpa using hlb3) (by simpa using ml)).trans (blk_put K3.out 1 (.slice (some ⟨g, 0, none⟩) (l.length - 1) cap))
  have hln : (l.eraseIdx 0).length = l.length - 1 := List.length_eraseIdx_of_lt hatl
  refine ⟨by simp, ⟨_, _, mb, hblk, row_move P3.out (fun k hk => hm k (row_lt P3.out hk) (row_ne_blk P3.out K3.out (by decide) k hk) ?_), ?_, ?_, h5, h6, H7.out, H8.out, HC.out.1, HC.out.2.1⟩, ?_⟩
  · exact MP.out k hk
  · rw [hln]
    exact row_move O3.out fun k hk => hm k (row_lt O3.out hk) (by cases hk; exact ng) (by cases hk; exact mg)
  · have := S4.out
    rw [HC.out.2.2] at this
    exact this
  · exact (F3.out.setCell (p := ⟨lb, 1, none⟩) (.inl h5) _).grown G4.out (fun b hb => .inl (by cases hb; exact h6))

theorem pop_any {S : Nat → Prop} {w : World} {lb : Nat} {picks l : List Int} {pops : Nat} (h : IsList S w lb picks l pops) (hl : 0 < l.length) (hlen : l.length < 1099511627776)
    (hpl : picks.length < 1099511627776) (hpops : pops < 1099511627776) (hw : ∀ x ∈ l, (Lit.int .i64 x).wf = true) :
    Calls Try.prog 10 #[.pointer (some ⟨lb, 0, none⟩)] w fun e w' => e = .returned (.tuple #[.int .i64 (l.getD (place picks pops l.length) 0), .bool true]) ∧
      IsList S w' lb picks (l.eraseIdx (place picks pops l.length)) (pops + 1) ∧ Fr S w w' := by
  have hp := place_lt picks pops l.length hl
  by_cases h1 : pops < picks.length
  · by_cases h2 : 0 ≤ picks.getD pops 0
    · refine pop_pick h hl hlen h1 h2 hpl hpops hw _ hp ?_
      unfold place
      rw [if_pos ⟨h1, h2⟩]
      have := Int.emod_nonneg (picks.getD pops 0) (show (l.length : Int) ≠ 0 by omega)
      omega
    · exact pop_neg h hl hlen h1 h2 hpl hpops hw _ hp (by unfold place; rw [if_neg (fun h => h2 h.2)])
  · exact pop_none h hl hlen h1 hpl hpops hw _ hp (by unfold place; rw [if_neg (fun h => h1 h.1)])

end Go.Proofs.Ytkgjfkeaiiigfaa
