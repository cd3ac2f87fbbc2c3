/- WorkFirst: the walk: without picks what came first goes first. -/
import Derived.Test.YtkgjfkeaiiigfaaBegun
namespace Go.Proofs.Ytkgjfkeaiiigfaa
open Go.RowKit Go.Maps Go.ChangeMaps Go.MapKept
set_option linter.unusedVariables false

/-- each number once, where it comes first -/
def firsts (l : List Int) : List Int := l.foldl (fun acc x => if x ∈ acc then acc else acc ++ [x]) []
theorem firsts_snoc (l : List Int) (x : Int) : firsts (l ++ [x]) = if x ∈ firsts l then firsts l else firsts l ++ [x] := by
  unfold firsts
  rw [List.foldl_append]
  rfl
theorem firsts_take (l : List Int) (k : Nat) (h : k < l.length) : firsts (l.take (k + 1)) = if l.getD k 0 ∈ firsts (l.take k) then firsts (l.take k) else firsts (l.take k) ++ [l.getD k 0] := by
  rw [List.take_succ_eq_append_getElem h, firsts_snoc]
  simp [List.getD_eq_getElem?_getD, List.getElem?_eq_getElem h]
theorem mem_firsts (l : List Int) : ∀ x, x ∈ firsts l → x ∈ l := by
  have key : ∀ (l acc : List Int) (x : Int), x ∈ l.foldl (fun acc x => if x ∈ acc then acc else acc ++ [x]) acc → x ∈ acc ∨ x ∈ l := by
    intro l
    induction l with
    | nil => intro acc x h; exact .inl h
    | cons a l ih =>
      intro acc x h
      rcases ih _ x h with h | h
      · dsimp only at h
        split at h
        · exact .inl h
        · rcases List.mem_append.1 h with h | h
          · exact .inl h
          · exact .inr (by simp at h; simp [h])
      · exact .inr (List.mem_cons_of_mem _ h)
  intro x h
  rcases key l [] x h with h | h
  · cases h
  · exact h
theorem firsts_len (l : List Int) : (firsts l).length ≤ l.length := by
  have key : ∀ (l acc : List Int), (l.foldl (fun acc x => if x ∈ acc then acc else acc ++ [x]) acc).length ≤ acc.length + l.length := by
    intro l
    induction l with
    | nil => intro acc; simp
    | cons a l ih =>
      intro acc
      have := ih (if a ∈ acc then acc else acc ++ [a])
      rw [List.foldl_cons]
      split at this <;> rename_i h <;> simp only [h, if_true, if_false] at this ⊢ <;> simp at this ⊢ <;> omega
  unfold firsts
  simpa using key l []

def FirstInv (w : World) (lb : Nat) (ll : List Int) (m i : Value) (wr : World) : Prop := ∃ (k : Nat) (S : Nat → Prop), k ≤ ll.length ∧ i = .int .i64 k ∧
  wr.ownsRow 0 3 1 m (firsts (ll.take k)).length (ints (firsts (ll.take k))) ∧ IsList S wr lb [] (firsts (ll.take k)) 0 ∧ (∀ b, S b → w.heap.size ≤ b ∧ b < wr.heap.size) ∧
  (∀ b, m.ownBlock = some b → w.heap.size ≤ b ∧ ¬ S b) ∧ Below w.heap.size w wr

def SecondInv (w : World) (lb : Nat) (q : List Int) (m i : Value) (wr : World) : Prop := ∃ (k : Nat) (S : Nat → Prop), k ≤ q.length ∧ i = .int .i64 k ∧
  wr.ownsRow 0 3 1 m q.length (ints q) ∧ IsList S wr lb [] (q.drop k ++ q.take k) k ∧ (∀ b, S b → w.heap.size ≤ b ∧ b < wr.heap.size) ∧
  (∀ b, m.ownBlock = some b → w.heap.size ≤ b ∧ ¬ S b) ∧ Below w.heap.size w wr

theorem first_start {w w1 w2 : World} {lb : Nat} (ll : List Int) (B1 : Below w.heap.size w w1) (B2 : Below w1.heap.size w1 w2) (L : IsList (fun k => w1.heap.size ≤ k ∧ k < w2.heap.size) w2 lb [] [] 0) :
    FirstInv w lb ll (.slice none 0 0) (.int .i64 0) w2 :=
  ⟨0, _, Nat.zero_le _, rfl, World.ownsRow_nil _ _ _ _, L, fun b hb => ⟨Nat.le_trans B1.size hb.1, hb.2⟩, fun b hb => (by cases hb), B1.trans (B2.mono B1.size)⟩

theorem first_old {w wr : World} {lb k : Nat} {ll : List Int} {S : Nat → Prop} {m : Value} (hk : k < ll.length) (hin : ll.getD k 0 ∈ firsts (ll.take k))
    (r : wr.ownsRow 0 3 1 m (firsts (ll.take k)).length (ints (firsts (ll.take k)))) (L : IsList S wr lb [] (firsts (ll.take k)) 0) (hS : ∀ b, S b → w.heap.size ≤ b ∧ b < wr.heap.size)
    (hm : ∀ b, m.ownBlock = some b → w.heap.size ≤ b ∧ ¬ S b) (B : Below w.heap.size w wr) : FirstInv w lb ll m (.int .i64 ((k : Int) + 1)) wr := by
  refine ⟨k + 1, S, hk, by simp, ?_, ?_, hS, hm, B⟩ <;> rw [firsts_take ll k hk, if_pos hin] <;> assumption

theorem first_new {w wr w1 w2 : World} {lb k : Nat} {ll : List Int} {S : Nat → Prop} {m m' : Value} {o : Obj} (hk : k < ll.length) (hin : ll.getD k 0 ∉ firsts (ll.take k))
    (r : wr.ownsRow 0 3 1 m (firsts (ll.take k)).length (ints (firsts (ll.take k)))) (hS : ∀ b, S b → w.heap.size ≤ b ∧ b < wr.heap.size)
    (hm : ∀ b, m.ownBlock = some b → w.heap.size ≤ b ∧ ¬ S b) (B : Below w.heap.size w wr)
    (L : IsList (fun b => S b ∨ (wr.heap.size ≤ b ∧ b < w1.heap.size)) w1 lb [] (firsts (ll.take k) ++ [ll.getD k 0]) 0) (F : Fr S wr w1)
    (r2 : w2.ownsRow 0 3 1 m' ((firsts (ll.take k)).length + 1) (ints (firsts (ll.take k)) ++ [.int .i64 (ll.getD k 0)])) (G : (w1.alloc o).grownBy w2 m.ownBlock)
    (hat : m'.ownBlock = m.ownBlock ∨ m'.ownBlock = some (w1.alloc o).heap.size) : FirstInv w lb ll m' (.int .i64 ((k : Int) + 1)) w2 := by
  have e := firsts_take ll k hk
  rw [if_neg hin] at e
  have z0 := B.size
  have z1 := F.size
  have z2 := G.size
  rw [alloc_size] at z2 hat
  refine ⟨k + 1, fun b => S b ∨ (wr.heap.size ≤ b ∧ b < w1.heap.size), hk, by simp, ?_, ?_, ?_, ?_, ?_⟩
  · rw [e]
    simpa [ints] using r2
  · rw [e]
    refine L.move fun b hb hlt => ?_
    refine (G.block b (by rw [alloc_size]; omega) (fun h => ?_)).trans (alloc_old _ _ _ hlt)
    rcases hb with hb | hb
    · exact (hm b h.symm).2 hb
    · have := row_lt r h.symm; omega
  · intro b hb
    rcases hb with hb | hb
    · have := hS b hb; omega
    · omega
  · intro b hb
    rcases hat with h | h
    · rw [h] at hb
      refine ⟨(hm b hb).1, fun hb' => ?_⟩
      rcases hb' with hb' | hb'
      · exact (hm b hb).2 hb'
      · have := row_lt r hb; omega
    · rw [h] at hb
      injection hb with hb
      refine ⟨by omega, fun hb' => ?_⟩
      rcases hb' with hb' | hb'
      · have := hS b hb'; omega
      · omega
  · have B1 : Below w.heap.size w w1 := B.trans (F.below (S := S) B.size fun b hb => (hS b hb).1)
    exact (B1.alloc (by omega) _).grown G (by rw [alloc_size]; omega) fun b hb => (hm b hb).1

theorem second_start {w wr : World} {lb : Nat} {ll : List Int} {m i : Value} (h : FirstInv w lb ll m i wr) (hi : i = .int .i64 ll.length) : SecondInv w lb (firsts ll) m (.int .i64 0) wr := by
  obtain ⟨k, S, hk, rfl, r, L, hS, hm, B⟩ := h
  obtain rfl : k = ll.length := by injection hi with _ hi; omega
  rw [List.take_length] at r L
  exact ⟨0, S, Nat.zero_le _, rfl, r, by simpa using L, hS, hm, B⟩

theorem second_next {w wr w1 w2 : World} {lb k : Nat} {q : List Int} {S : Nat → Prop} {m : Value} (hk : k < q.length)
    (r : wr.ownsRow 0 3 1 m q.length (ints q)) (hS : ∀ b, S b → w.heap.size ≤ b ∧ b < wr.heap.size) (hm : ∀ b, m.ownBlock = some b → w.heap.size ≤ b ∧ ¬ S b) (B : Below w.heap.size w wr)
    (F : Fr S wr w1) (L : IsList (fun b => S b ∨ (w1.heap.size ≤ b ∧ b < w2.heap.size)) w2 lb [] (q.drop (k + 1) ++ q.take k ++ [q.getD k 0]) (k + 1)) (F2 : Fr S w1 w2) : SecondInv w lb q m (.int .i64 ((k : Int) + 1)) w2 := by
  have z0 := B.size
  have z1 := F.size
  have z2 := F2.size
  refine ⟨k + 1, fun b => S b ∨ (w1.heap.size ≤ b ∧ b < w2.heap.size), hk, by simp, ?_, ?_, ?_, ?_, ?_⟩
  · refine row_move (row_move r fun b hb => F.block b (row_lt r hb) (hm b hb).2) fun b hb => F2.block b ?_ (hm b hb).2
    have := row_lt r hb
    omega
  · rw [List.take_succ_eq_append_getElem hk, ← List.append_assoc]
    rw [List.getD_eq_getElem?_getD, List.getElem?_eq_getElem hk] at L
    exact L
  · intro b hb
    rcases hb with hb | hb
    · have := hS b hb; omega
    · omega
  · intro b hb
    refine ⟨(hm b hb).1, fun hb' => ?_⟩
    rcases hb' with hb' | hb'
    · exact (hm b hb).2 hb'
    · have := row_lt r hb; omega
  · exact (B.trans (F.below (S := S) B.size fun b hb => (hS b hb).1)).trans (F2.below (S := S) (by omega) fun b hb => (hS b hb).1)

set_option maxHeartbeats 1000000 in
theorem workFirst_small (A : Option Addr) (n c : Nat) (l : List Int) (w : World) (h : Reads w (.slice A n c) l) (hn : n ≤ 60) :
    Calls Try.prog 6 #[.slice A n c] w fun e w' => e = .returned (.bool true) ∧ Below w.heap.size w w' := by
  obtain ⟨A', c', hv, hc, hcap, hwf, hA⟩ := h
  injection hv with h1 h2 h3
  subst h1 h2 h3
  obtain ⟨ll, hll⟩ : ∃ ll, ll = l := ⟨l, rfl⟩
  subst hll
  have hll : True := trivial
  have HA := Lib.hid hA; have HW := Lib.hid hwf; have HL := Lib.hid hll
  clear hA hwf hll
  unfold maxLen at hcap
  go_enter Try.func6, Try.ntmps6
  go_wp2_with fail
  refine (begun_true _).mono ?_
  rintro e w1 ⟨rfl, B⟩
  have B1 := Lib.hid B
  clear B
  go_wp2_with fail
  refine (new_any (picks := []) ⟨none, 0, rfl, by simp, by simp, by simp, fun h => by simp at h⟩ (by simp)).mono ?_
  rintro e w2 ⟨lb, rfl, L, B⟩
  have I0 := Lib.hid (first_start ll B1.out B L)
  clear L B
  go_wp2_with fail
  go_loopw [5, 6] (fun m i wr => FirstInv w lb ll m i wr) (fun _ i _ => ll.length - (intOf i).toNat)
  case atStart => exact I0.out
  case round =>
    obtain ⟨k, S, hk, rfl, r, L, hS, hm, B⟩ := id hrel
    obtain ⟨mA, mc, rfl⟩ := row_len r
    have R := Lib.hid r; have LL := Lib.hid L; have HS := Lib.hid hS; have HM := Lib.hid hm; have BB := Lib.hid B; have HR := Lib.hid hrel
    have hql : (firsts (ll.take k)).length ≤ k := Nat.le_trans (firsts_len _) (List.length_take_le _ _)
    clear r L hS hm B hrel
    
    by_cases hlt : k < ll.length
    · obtain ⟨b, off, hAe, hcell⟩ := HA.out (by omega)
      subst hAe
      have cx : wr.cell? ⟨b, off + k, none⟩ = some (.int .i64 (ll.getD k 0)) := by
        have h0 := hcell k hlt
        exact (BB.out.cell (p := ⟨b, off + k, none⟩) (World.block_lt_of_cell? w _ h0)).trans h0
      have hx := HW.out (ll.getD k 0) (by rw [List.getD_eq_getElem?_getD, List.getElem?_eq_getElem hlt]; exact List.getElem_mem hlt)
      have f_old := first_old (w := w) (wr := wr) (lb := lb) (S := S) (m := .slice mA (firsts (ll.take k)).length mc) hlt
      have f_new := @first_new w wr
      have push1 := fun hin => push_old LL.out (ll.getD k 0) hx hin
      have push2 := fun hin => push_new LL.out (ll.getD k 0) hx hin (by omega)
      have FO := Lib.hid f_old; have P1 := Lib.hid push1; have P2 := Lib.hid push2; have HC := Lib.hid hcell
      clear f_old push1 push2 hcell f_new
      by_cases hin : ll.getD k 0 ∈ firsts (ll.take k)
      · have HI := Lib.hid hin
        clear hin
        generalize hxx : ll.getD k 0 = x at *
        have HX := Lib.hid hxx
        clear hxx
        go_wp2_with fail
        refine (P1.out HI.out).mono ?_
        rintro e w' ⟨rfl, rfl⟩
        go_wp2_with fail
        go_roundw
        case rel => exact FO.out HI.out R.out LL.out HS.out HM.out BB.out
        case measure => simp [intOf]; omega
      · have HI := Lib.hid hin
        clear hin FO
        generalize hxx : ll.getD k 0 = x at *
        have HX := Lib.hid hxx
        clear hxx
        go_wp2_with fail
        refine (P2.out HI.out).mono ?_
        rintro e w3 ⟨rfl, L3, F3⟩
        have R3 := Lib.hid (row_move R.out fun k hk => F3.block k (row_lt R.out hk) (HM.out k hk).2)
        have cx3 : w3.cell? ⟨b, off + k, none⟩ = some (.int .i64 x) := by
          refine (World.cell?_of_block (F3.block b (World.block_lt_of_cell? wr _ cx) fun hb => ?_)).trans cx
          have h1 := World.block_lt_of_cell? w _ (HC.out k hlt)
          have h2 := (HS.out b hb).1
          simp at h1
          omega
        have LL3 := Lib.hid L3; have FF3 := Lib.hid F3
        obtain ⟨i0, hi, hz0, hz1, hz2⟩ := info_parts info3
        clear L3 F3
        go_wp2_with (first
          | (at_builtin; refine wpList_append_own_at _ rfl _ _ 22 rfl 0 3 i0 (.int .i64 0) 1 8 Try.underlying22 hi hz0 hz1 hz2 rfl (by decide) (.slice mA (firsts (ll.take k)).length mc) (firsts (ll.take k)).length (ints (firsts (ll.take k))) rfl (R3.out.alloc _) ⟨w3.heap.size, 0, none⟩ 1 1 [.int .i64 x] rfl rfl (one_cell _ _ _) (one_int _ _) (by unfold maxLen; omega) (by omega) (Nat.zero_le _) ?_; intro v' w4 hown hgrow hnn hat; clear hnn; have HO := Lib.hid hown; have HG := Lib.hid hgrow; have HAT := Lib.hid hat; clear hown hgrow hat)
          | go_in)
        go_roundw
        case rel =>
          have hxx := HX.out
          subst hxx
          exact first_new hlt HI.out R.out HS.out HM.out BB.out LL3.out FF3.out HO.out HG.out HAT.out
        case measure => simp [intOf]; omega
    · obtain rfl : k = ll.length := by omega
      have I1 := Lib.hid (second_start HR.out rfl)
      have hq := firsts_len ll
      have HQ := Lib.hid (mem_firsts ll)
      rw [List.take_length] at *
      have hq60 : (firsts ll).length ≤ 60 := by omega
      clear R LL HS HM BB HR hlt
      generalize firsts ll = q at *
      have hl60 := hn
      go_wp2_with fail
      go_loopw [7] (fun i wr => SecondInv w lb q (.slice mA q.length mc) i wr) (fun i _ => q.length - (intOf i).toNat)
      case atStart => exact I1.out
      case round =>
        obtain ⟨k, S, hk, rfl, r, L, hS, hm, B⟩ := id hrel
        have R := Lib.hid r; have LL := Lib.hid L; have HS := Lib.hid hS; have HM := Lib.hid hm; have BB := Lib.hid B; have HR := Lib.hid hrel
        clear r L hS hm B hrel
        by_cases hlt : k < q.length
        · obtain ⟨g, cap, he, hg0, hgl, hgc, hgm, gcell, gfree⟩ := row_form R.out (by omega)
          injection he with he1 he2 he3
          subst he1 he3
          have hnd := LL.out.nodup
          have ed : q.drop k = q.getD k 0 :: q.drop (k + 1) := by
            rw [List.getD_eq_getElem?_getD, List.getElem?_eq_getElem hlt]
            exact (List.drop_eq_getElem_cons hlt)
          have hxm : q.getD k 0 ∈ q := by rw [List.getD_eq_getElem?_getD, List.getElem?_eq_getElem hlt]; exact List.getElem_mem hlt
          have hx := HW.out _ (HQ.out _ hxm)
          have pop1 := pop_any LL.out (by simp; omega) (by simp; omega) (by simp) (by omega) (fun x hx => HW.out x (HQ.out x (by
            rcases List.mem_append.1 hx with h | h
            · exact List.mem_of_mem_drop h
            · exact List.mem_of_mem_take h)))
          have e0 : place [] k (q.drop k ++ q.take k).length = 0 := by simp [place]
          rw [e0, ed] at pop1
          rw [ed] at hnd
          simp only [List.cons_append, List.getD_cons_zero, List.eraseIdx_zero, List.tail_cons] at pop1
          have hni : q.getD k 0 ∉ q.drop (k + 1) ++ q.take k := by
            rw [List.cons_append] at hnd
            exact (List.nodup_cons.1 hnd).1
          have nxt := @second_next w wr
          have cm := gcell k hlt
          have ecm : (ints q)[k]? = some (.int .i64 (q.getD k 0)) := by simp [ints, List.getD_eq_getElem?_getD, List.getElem?_eq_getElem hlt]
          rw [ecm] at cm
          generalize hxx : q.getD k 0 = x at *
          have HX := Lib.hid hxx; have PP := Lib.hid pop1; have HNI := Lib.hid hni
          clear hxx pop1 hni nxt ed hnd e0 gcell gfree ecm hxm he2
          go_wp2_with fail
          refine PP.out.mono ?_
          rintro e w3 ⟨rfl, L3, F3⟩
          have cm3 : w3.cell? ⟨g, k, none⟩ = some (.int .i64 x) := (World.cell?_of_block (F3.block g hgl (HM.out g rfl).2)).trans cm
          have P2 := Lib.hid (push_new L3 x hx HNI.out (by simp; omega))
          have FF3 := Lib.hid F3
          clear L3 F3
          go_wp2_with fail
          refine P2.out.mono ?_
          rintro e w4 ⟨rfl, L4, F4⟩
          have LL4 := Lib.hid L4; have FF4 := Lib.hid F4
          clear L4 F4
          go_wp2_with fail
          go_roundw
          case rel =>
            have hxx := HX.out
            subst hxx
            exact second_next hlt R.out HS.out HM.out BB.out FF3.out LL4.out FF4.out
          case measure => simp [intOf]; omega
        · obtain rfl : k = q.length := by omega
          have L := LL.out
          simp only [List.drop_length, List.nil_append, List.take_length] at L
          have L5 := Lib.hid L
          clear L
          go_wp2_with fail
          refine (len_any L5.out).mono ?_
          rintro e w' ⟨rfl, rfl⟩
          go_wp2_with fail
          refine (pops_any L5.out).mono ?_
          rintro e w' ⟨rfl, rfl⟩
          go_wp2_with fail
          go_ret
          exact ⟨rfl, BB.out⟩

set_option maxHeartbeats 1000000 in
theorem workFirst_great (A : Option Addr) (n c : Nat) (l : List Int) (w : World) (h : Reads w (.slice A n c) l) (hn : 60 < n) :
    Calls Try.prog 6 #[.slice A n c] w fun e w' => e = .returned (.bool true) ∧ Below w.heap.size w w' := by
  obtain ⟨A', c', hv, hc, hcap, hwf, hA⟩ := h
  injection hv with h1 h2 h3
  subst h1 h2 h3
  obtain ⟨b, off, rfl, hcell⟩ := hA (by omega)
  obtain ⟨ll, hll⟩ : ∃ ll, ll = l.take 60 := ⟨_, rfl⟩
  have hlen : ll.length = 60 := by rw [hll, List.length_take]; omega
  have hA : 0 < ll.length → ∃ b' off', some (⟨b, off, none⟩ : Addr) = some ⟨b', off', none⟩ ∧ ∀ j, j < ll.length → w.cell? ⟨b', off' + j, none⟩ = some (.int .i64 (ll.getD j 0)) := by
    intro _
    refine ⟨b, off, rfl, fun j hj => ?_⟩
    rw [hcell j (by omega), hll]
    simp [List.getD_eq_getElem?_getD, show j < 60 by omega]
  have hwf : ∀ x ∈ ll, (Lit.int .i64 x).wf = true := fun x hx => hwf x (by rw [hll] at hx; exact List.mem_of_mem_take hx)
  have HLEN := Lib.hid hlen
  have hn1 : 60 ≤ c := by omega
  have hl60 : ll.length ≤ 60 := by omega
  clear hlen hcell
  have HA := Lib.hid hA; have HW := Lib.hid hwf; have HL := Lib.hid hll
  clear hA hwf hll
  unfold maxLen at hcap
  go_enter Try.func6, Try.ntmps6
  go_wp2_with fail
  refine (begun_true _).mono ?_
  rintro e w1 ⟨rfl, B⟩
  have B1 := Lib.hid B
  clear B
  go_wp2_with fail
  refine (new_any (picks := []) ⟨none, 0, rfl, by simp, by simp, by simp, fun h => by simp at h⟩ (by simp)).mono ?_
  rintro e w2 ⟨lb, rfl, L, B⟩
  have I0 := Lib.hid (first_start ll B1.out B L)
  clear L B
  go_wp2_with fail
  go_loopw [5, 6] (fun m i wr => FirstInv w lb ll m i wr) (fun _ i _ => ll.length - (intOf i).toNat)
  case atStart => exact I0.out
  case round =>
    obtain ⟨k, S, hk, rfl, r, L, hS, hm, B⟩ := id hrel
    obtain ⟨mA, mc, rfl⟩ := row_len r
    have R := Lib.hid r; have LL := Lib.hid L; have HS := Lib.hid hS; have HM := Lib.hid hm; have BB := Lib.hid B; have HR := Lib.hid hrel
    have hql : (firsts (ll.take k)).length ≤ k := Nat.le_trans (firsts_len _) (List.length_take_le _ _)
    clear r L hS hm B hrel
    
    by_cases hlt : k < ll.length
    · obtain ⟨b, off, hAe, hcell⟩ := HA.out (by omega)
      injection hAe with hAe
      injection hAe with h1 h2
      subst h1 h2
      have hlt60 : k < 60 := by omega
      have cx : wr.cell? ⟨b, off + k, none⟩ = some (.int .i64 (ll.getD k 0)) := by
        have h0 := hcell k hlt
        exact (BB.out.cell (p := ⟨b, off + k, none⟩) (World.block_lt_of_cell? w _ h0)).trans h0
      have hx := HW.out (ll.getD k 0) (by rw [List.getD_eq_getElem?_getD, List.getElem?_eq_getElem hlt]; exact List.getElem_mem hlt)
      have f_old := first_old (w := w) (wr := wr) (lb := lb) (S := S) (m := .slice mA (firsts (ll.take k)).length mc) hlt
      have f_new := @first_new w wr
      have push1 := fun hin => push_old LL.out (ll.getD k 0) hx hin
      have push2 := fun hin => push_new LL.out (ll.getD k 0) hx hin (by omega)
      have FO := Lib.hid f_old; have P1 := Lib.hid push1; have P2 := Lib.hid push2; have HC := Lib.hid hcell
      clear f_old push1 push2 hcell f_new
      by_cases hin : ll.getD k 0 ∈ firsts (ll.take k)
      · have HI := Lib.hid hin
        clear hin
        generalize hxx : ll.getD k 0 = x at *
        have HX := Lib.hid hxx
        clear hxx
        go_wp2_with fail
        refine (P1.out HI.out).mono ?_
        rintro e w' ⟨rfl, rfl⟩
        go_wp2_with fail
        go_roundw
        case rel => exact FO.out HI.out R.out LL.out HS.out HM.out BB.out
        case measure => simp [intOf]; omega
      · have HI := Lib.hid hin
        clear hin FO
        generalize hxx : ll.getD k 0 = x at *
        have HX := Lib.hid hxx
        clear hxx
        go_wp2_with fail
        refine (P2.out HI.out).mono ?_
        rintro e w3 ⟨rfl, L3, F3⟩
        have R3 := Lib.hid (row_move R.out fun k hk => F3.block k (row_lt R.out hk) (HM.out k hk).2)
        have cx3 : w3.cell? ⟨b, off + k, none⟩ = some (.int .i64 x) := by
          refine (World.cell?_of_block (F3.block b (World.block_lt_of_cell? wr _ cx) fun hb => ?_)).trans cx
          have h1 := World.block_lt_of_cell? w _ (HC.out k hlt)
          have h2 := (HS.out b hb).1
          simp at h1
          omega
        have LL3 := Lib.hid L3; have FF3 := Lib.hid F3
        obtain ⟨i0, hi, hz0, hz1, hz2⟩ := info_parts info3
        clear L3 F3
        go_wp2_with (first
          | (at_builtin; refine wpList_append_own_at _ rfl _ _ 22 rfl 0 3 i0 (.int .i64 0) 1 8 Try.underlying22 hi hz0 hz1 hz2 rfl (by decide) (.slice mA (firsts (ll.take k)).length mc) (firsts (ll.take k)).length (ints (firsts (ll.take k))) rfl (R3.out.alloc _) ⟨w3.heap.size, 0, none⟩ 1 1 [.int .i64 x] rfl rfl (one_cell _ _ _) (one_int _ _) (by unfold maxLen; omega) (by omega) (Nat.zero_le _) ?_; intro v' w4 hown hgrow hnn hat; clear hnn; have HO := Lib.hid hown; have HG := Lib.hid hgrow; have HAT := Lib.hid hat; clear hown hgrow hat)
          | go_in)
        go_roundw
        case rel =>
          have hxx := HX.out
          subst hxx
          exact first_new hlt HI.out R.out HS.out HM.out BB.out LL3.out FF3.out HO.out HG.out HAT.out
        case measure => simp [intOf]; omega
    · obtain rfl : k = ll.length := by omega
      have I1 := Lib.hid (second_start HR.out rfl)
      have hq := firsts_len ll
      have HQ := Lib.hid (mem_firsts ll)
      rw [List.take_length] at *
      have hq60 : (firsts ll).length ≤ 60 := by omega
      clear R LL HS HM BB HR hlt
      generalize firsts ll = q at *
      have hge60 : (60 : Int) ≤ (ll.length : Int) := by have := HLEN.out; omega
      go_wp2_with fail
      go_loopw [7] (fun i wr => SecondInv w lb q (.slice mA q.length mc) i wr) (fun i _ => q.length - (intOf i).toNat)
      case atStart => exact I1.out
      case round =>
        obtain ⟨k, S, hk, rfl, r, L, hS, hm, B⟩ := id hrel
        have R := Lib.hid r; have LL := Lib.hid L; have HS := Lib.hid hS; have HM := Lib.hid hm; have BB := Lib.hid B; have HR := Lib.hid hrel
        clear r L hS hm B hrel
        by_cases hlt : k < q.length
        · obtain ⟨g, cap, he, hg0, hgl, hgc, hgm, gcell, gfree⟩ := row_form R.out (by omega)
          injection he with he1 he2 he3
          subst he1 he3
          have hnd := LL.out.nodup
          have ed : q.drop k = q.getD k 0 :: q.drop (k + 1) := by
            rw [List.getD_eq_getElem?_getD, List.getElem?_eq_getElem hlt]
            exact (List.drop_eq_getElem_cons hlt)
          have hxm : q.getD k 0 ∈ q := by rw [List.getD_eq_getElem?_getD, List.getElem?_eq_getElem hlt]; exact List.getElem_mem hlt
          have hx := HW.out _ (HQ.out _ hxm)
          have pop1 := pop_any LL.out (by simp; omega) (by simp; omega) (by simp) (by omega) (fun x hx => HW.out x (HQ.out x (by
            rcases List.mem_append.1 hx with h | h
            · exact List.mem_of_mem_drop h
            · exact List.mem_of_mem_take h)))
          have e0 : place [] k (q.drop k ++ q.take k).length = 0 := by simp [place]
          rw [e0, ed] at pop1
          rw [ed] at hnd
          simp only [List.cons_append, List.getD_cons_zero, List.eraseIdx_zero, List.tail_cons] at pop1
          have hni : q.getD k 0 ∉ q.drop (k + 1) ++ q.take k := by
            rw [List.cons_append] at hnd
            exact (List.nodup_cons.1 hnd).1
          have nxt := @second_next w wr
          have cm := gcell k hlt
          have ecm : (ints q)[k]? = some (.int .i64 (q.getD k 0)) := by simp [ints, List.getD_eq_getElem?_getD, List.getElem?_eq_getElem hlt]
          rw [ecm] at cm
          generalize hxx : q.getD k 0 = x at *
          have HX := Lib.hid hxx; have PP := Lib.hid pop1; have HNI := Lib.hid hni
          clear hxx pop1 hni nxt ed hnd e0 gcell gfree ecm hxm he2
          go_wp2_with fail
          refine PP.out.mono ?_
          rintro e w3 ⟨rfl, L3, F3⟩
          have cm3 : w3.cell? ⟨g, k, none⟩ = some (.int .i64 x) := (World.cell?_of_block (F3.block g hgl (HM.out g rfl).2)).trans cm
          have P2 := Lib.hid (push_new L3 x hx HNI.out (by simp; omega))
          have FF3 := Lib.hid F3
          clear L3 F3
          go_wp2_with fail
          refine P2.out.mono ?_
          rintro e w4 ⟨rfl, L4, F4⟩
          have LL4 := Lib.hid L4; have FF4 := Lib.hid F4
          clear L4 F4
          go_wp2_with fail
          go_roundw
          case rel =>
            have hxx := HX.out
            subst hxx
            exact second_next hlt R.out HS.out HM.out BB.out FF3.out LL4.out FF4.out
          case measure => simp [intOf]; omega
        · obtain rfl : k = q.length := by omega
          have L := LL.out
          simp only [List.drop_length, List.nil_append, List.take_length] at L
          have L5 := Lib.hid L
          clear L
          go_wp2_with fail
          refine (len_any L5.out).mono ?_
          rintro e w' ⟨rfl, rfl⟩
          go_wp2_with fail
          refine (pops_any L5.out).mono ?_
          rintro e w' ⟨rfl, rfl⟩
          go_wp2_with fail
          go_ret
          exact ⟨rfl, BB.out⟩

theorem workFirst_any (A : Option Addr) (n c : Nat) (l : List Int) (w : World) (h : Reads w (.slice A n c) l) :
    Calls Try.prog 6 #[.slice A n c] w fun e w' => e = .returned (.bool true) ∧ Below w.heap.size w w' := by
  by_cases hn : n ≤ 60
  · exact workFirst_small A n c l w h hn
  · exact workFirst_great A n c l w h (by omega)

end Go.Proofs.Ytkgjfkeaiiigfaa
