/- Sorted pairs of numbers: as a hook of the evaluator. -/
import Derived.Shelf.SlSortCmp.NoneTotal
import Derived.Test.YtjbnkokcbhfdgabGreatDoorXvI
namespace Go.Proofs.YtjbnkokcbhfdgabGreatDoor.Ev
open Go Go.RowKit
set_option linter.unusedVariables false
set_option linter.unusedSimpArgs false
set_option linter.unusedSectionVars false
set_option linter.unnecessarySimpa false
open Go Go.RowKit Go.Proofs Go.Shelf Go.Sort

def encP (x : Int × Int) : List Value := [.int .i64 x.1, .int .i64 x.2]
def encV (x : Int × Int) : List CV := [.int .i64 x.1, .int .i64 x.2]
def lexP (x y : Int × Int) : Int := if Lib.compareInt x.1 y.1 = 0 then Lib.compareInt x.2 y.2 else Lib.compareInt x.1 y.1
def ltP (x y : Int × Int) : Bool := ilt x.1 y.1 || (ieq x.1 y.1 && ilt x.2 y.2)
theorem lt_lex (x y : Int × Int) : ltOf lexP x y = ltP x y := by
  unfold ltOf lexP ltP Lib.compareInt
  rw [ilt_eq, ilt_eq, ieq_eq]
  by_cases h1 : x.1 < y.1
  · simp [h1]
  · by_cases h2 : y.1 < x.1
    · have h3 : ¬ (x.1 = y.1) := by omega
      simp [h1, h2, h3]
    · have h3 : x.1 = y.1 := by omega
      simp only [h1, h2, if_false, if_true, gt_iff_lt]
      by_cases h4 : x.2 < y.2
      · simp [h3, h4]
      · by_cases h5 : y.2 < x.2 <;> simp [h3, h4, h5]
theorem ltP_iff {x y : Int × Int} : ltP x y = true ↔ x.1 < y.1 ∨ (x.1 = y.1 ∧ x.2 < y.2) := by
  unfold ltP
  rw [ilt_eq, ilt_eq, ieq_eq]
  simp
theorem ltP_false {x y : Int × Int} : ltP x y = false ↔ y.1 < x.1 ∨ (x.1 = y.1 ∧ y.2 ≤ x.2) := by
  cases h : ltP x y with
  | true => rw [ltP_iff] at h; simp; omega
  | false =>
    have : ¬ (ltP x y = true) := by rw [h]; simp
    rw [ltP_iff] at this
    simp; omega
theorem swoP : Sort.SWO (ltOf lexP) where
  irrefl x := by rw [lt_lex, ltP_false]; omega
  trans x y z h1 h2 := by rw [lt_lex, ltP_iff] at *; omega
  ntrans x y z h1 h2 := by rw [lt_lex, ltP_false] at *; omega
theorem totP (x y : Int × Int) (h1 : ltOf lexP x y = false) (h2 : ltOf lexP y x = false) : x = y := by
  rw [lt_lex, ltP_false] at *
  exact Prod.ext (by omega) (by omega)
def leP (x y : Int × Int) : Bool := !(ltOf lexP) y x
theorem leP_iff {x y : Int × Int} : leP x y = true ↔ x.1 < y.1 ∨ (x.1 = y.1 ∧ x.2 ≤ y.2) := by
  unfold leP
  rw [lt_lex, Bool.not_eq_true', ltP_false]
  omega
def insP (x : Int × Int) : List (Int × Int) → List (Int × Int)
  | [] => [x]
  | y :: l => match ltP y x with
    | true => y :: insP x l
    | false => x :: y :: l
def isortP : List (Int × Int) → List (Int × Int)
  | [] => []
  | x :: l => insP x (isortP l)
theorem insP_perm (x : Int × Int) : ∀ l, (insP x l).Perm (x :: l)
  | [] => List.Perm.refl _
  | y :: l => by
    unfold insP
    split
    · exact ((insP_perm x l).cons y).trans (List.Perm.swap x y l)
    · exact List.Perm.refl _
theorem isortP_perm : ∀ l, (isortP l).Perm l
  | [] => List.Perm.refl _
  | x :: l => (insP_perm x _).trans ((isortP_perm l).cons x)
theorem insP_sorted (x : Int × Int) : ∀ l, l.Pairwise (fun a b => leP a b = true) → (insP x l).Pairwise (fun a b => leP a b = true)
  | [], _ => by simp [insP]
  | y :: l, h => by
    have h' := List.pairwise_cons.1 h
    unfold insP
    split
    · rename_i hlt
      refine List.pairwise_cons.2 ⟨fun z hz => ?_, insP_sorted x l h'.2⟩
      rcases List.mem_cons.1 ((insP_perm x l).mem_iff.1 hz) with rfl | hz
      · rw [leP_iff]; rw [ltP_iff] at hlt; omega
      · exact h'.1 z hz
    · rename_i hlt
      have hxy : leP x y = true := by rw [leP_iff]; rw [ltP_false] at hlt; omega
      refine List.pairwise_cons.2 ⟨fun z hz => ?_, h⟩
      rcases List.mem_cons.1 hz with rfl | hz
      · exact hxy
      · have := h'.1 z hz
        rw [leP_iff] at *; omega
theorem isortP_sorted : ∀ l, (isortP l).Pairwise (fun a b => leP a b = true)
  | [] => List.Pairwise.nil
  | x :: l => insP_sorted x _ (isortP_sorted l)
theorem sorted_uniq : ∀ {l l' : List (Int × Int)}, l.Pairwise (fun a b => leP a b = true) → l'.Pairwise (fun a b => leP a b = true) → l.Perm l' → l = l'
  | [], l', _, _, h => by have := h.symm.eq_nil; exact this.symm
  | a :: l, [], _, _, h => by have := h.eq_nil; cases this
  | a :: l, b :: l', h1, h2, h => by
    have h1' := List.pairwise_cons.1 h1
    have h2' := List.pairwise_cons.1 h2
    have hab : a = b := by
      rcases List.mem_cons.1 (h.mem_iff.1 (List.mem_cons_self ..)) with e | ha
      · exact e
      · rcases List.mem_cons.1 (h.symm.mem_iff.1 (List.mem_cons_self ..)) with e | hb
        · exact e.symm
        · have g1 := h1'.1 b hb
          have g2 := h2'.1 a ha
          rw [leP_iff] at g1 g2
          exact Prod.ext (by omega) (by omega)
    subst hab
    rw [sorted_uniq h1'.2 h2'.2 (List.Perm.cons_inv h)]
theorem merge_isort {l l' : List (Int × Int)} (h : l'.Perm l) : l'.mergeSort leP = isortP l := by
  refine sorted_uniq ?_ (isortP_sorted l) ((List.mergeSort_perm l' leP).trans (h.trans (isortP_perm l).symm))
  refine List.pairwise_mergeSort (fun a b c h1 h2 => ?_) (fun a b => ?_) l'
  · rw [leP_iff] at *; omega
  · have : leP a b = true ∨ leP b a = true := by rw [leP_iff, leP_iff]; omega
    simpa using this

/-! rows of pairs -/
theorem flat_get : ∀ (l : List (Int × Int)) (t : Nat), t < l.length * 2 → (l.flatMap encP)[t]? = some ((encP l[t / 2]!)[t % 2]!)
  | [], t, h => by simp at h
  | x :: l, 0, h => by simp [encP]
  | x :: l, 1, h => by simp [encP]
  | x :: l, t + 2, h => by
    have ih := flat_get l t (by simp at h; omega)
    have e1 : (t + 2) / 2 = t / 2 + 1 := by omega
    have e2 : (t + 2) % 2 = t % 2 := by omega
    rw [e1, e2]
    simp only [List.flatMap_cons]
    rw [List.getElem?_append_right (by simp [encP])]
    simp only [encP, List.length_cons, List.length_nil, Nat.reduceAdd, Nat.add_sub_cancel]
    have : (x :: l)[t / 2 + 1]! = l[t / 2]! := by simp
    rw [this]
    exact ih
theorem len_flat : ∀ (l : List (Int × Int)), (l.flatMap encP).length = l.length * 2
  | [] => rfl
  | x :: l => by simp only [List.flatMap_cons, List.length_append, len_flat l, List.length_cons]; simp [encP]; omega
theorem flatK_list (l : List (Int × Int)) : flatK encP 2 l.toArray = (l.flatMap encP).toArray := by
  apply Array.ext_getElem?
  intro t
  by_cases h : t < l.length * 2
  · have h1 : t < (flatK encP 2 l.toArray).size := by simpa using h
    rw [Array.getElem?_eq_getElem h1]
    have h2 := get_flatK encP 2 l.toArray t (by simpa using h)
    rw [getElem!_pos _ t h1] at h2
    rw [h2]
    simp only [List.getElem?_toArray]
    rw [flat_get l t h]
    simp
  · rw [Array.getElem?_eq_none (by simp; omega), Array.getElem?_eq_none (by simp only [List.size_toArray, len_flat]; omega)]

def pairOf : List CV → Option (Int × Int)
  | [.int .i64 a, .int .i64 b] => some (a, b)
  | _ => none
def pairsOf : List (List CV) → Option (List (Int × Int))
  | [] => some []
  | r :: l => (pairOf r).bind fun p => (pairsOf l).bind fun q => some (p :: q)
theorem pairOf_some {r : List CV} {p : Int × Int} (h : pairOf r = some p) : r = encV p := by
  unfold pairOf at h
  split at h
  · cases h; rfl
  · cases h
theorem pairsOf_some : ∀ {l : List (List CV)} {q : List (Int × Int)}, pairsOf l = some q → l = q.map encV
  | [], q, h => by cases h; rfl
  | r :: l, q, h => by
    simp only [pairsOf, Option.bind_eq_some_iff] at h
    obtain ⟨p, h1, q', h2, h3⟩ := h
    cases h3
    rw [pairOf_some h1, pairsOf_some h2]; rfl
theorem map_perm {q : List (Int × Int)} : ∀ {l : List (List CV)}, l.Perm (q.map encV) → ∃ q' : List (Int × Int), q'.Perm q ∧ l = q'.map encV := by
  intro l h
  have hm : ∀ r ∈ l, ∃ p, r = encV p := fun r hr => by
    obtain ⟨p, _, hp⟩ := List.mem_map.1 (h.mem_iff.1 hr)
    exact ⟨p, hp.symm⟩
  have hl : ∃ q' : List (Int × Int), l = q'.map encV := by
    clear h
    induction l with
    | nil => exact ⟨[], rfl⟩
    | cons r l ih =>
      obtain ⟨p, hp⟩ := hm r (by simp)
      obtain ⟨q', hq'⟩ := ih fun r hr => hm r (by simp [hr])
      exact ⟨p :: q', by rw [hp, hq']; rfl⟩
  obtain ⟨q', rfl⟩ := hl
  refine ⟨q', ?_, rfl⟩
  have inj : ∀ a b : Int × Int, encV a = encV b → a = b := by
    intro a b hab
    simp only [encV, List.cons.injEq, CV.int.injEq, true_and, and_true] at hab
    exact Prod.ext hab.1 hab.2
  have hdec : ∀ (r : List CV), pairOf (r) = pairOf r := fun _ => rfl
  have := h.filterMap pairOf
  have e : ∀ q : List (Int × Int), (q.map encV).filterMap pairOf = q := by
    intro q
    induction q with
    | nil => rfl
    | cons p q ih =>
      rw [List.map_cons, List.filterMap_cons, ih]
      rfl
  rwa [e, e] at this
theorem VL_enc {φ : Mp} : ∀ {q : List (Int × Int)} {vals : List Value}, VL φ (q.map encV).flatten vals ↔ vals = q.flatMap encP
  | [], vals => by
    cases vals with
    | nil => simp [VL]
    | cons v vals => simp [VL]
  | p :: q, vals => by
    simp only [List.map_cons, List.flatten_cons, List.flatMap_cons]
    cases vals with
    | nil => simp [encV, encP, VL]
    | cons v vals => cases vals with
      | nil => simp [encV, encP, VL]
      | cons v' vals =>
        have ih := VL_enc (φ := φ) (q := q) (vals := vals)
        constructor
        · rintro ⟨h1, h2, h3⟩
          have h1 : v = .int .i64 p.1 := h1
          have h2 : v' = .int .i64 p.2 := h2
          rw [h1, h2, ih.1 h3]; rfl
        · intro h
          simp only [encP, List.cons_append, List.nil_append, List.cons.injEq] at h
          obtain ⟨h1, h2, h3⟩ := h
          exact ⟨h1, h2, ih.2 h3⟩
theorem allInt_enc : ∀ q : List (Int × Int), allInt (q.map encV).flatten = true
  | [] => rfl
  | p :: q => allInt_enc q

/-! the hook -/
structure SoA where
  b : Nat
  n : Nat
def sortArg (g : Nat) : List AV → Option SoA
  | [.v (.c (.slice b o n (.opn d))), .v (.c (.func g' []))] => chk (Nat.beq o 0) (chk (Nat.beq d 0) (chk (Nat.beq g' g) (some ⟨b, n⟩)))
  | _ => none
structure Bg where
  rows : List (List CV)
  elem : Nat
  os : Nat
def bagOf : XK → Option Bg
  | .bag r e o => some ⟨r, e, o⟩
  | _ => none
def encL (q : List (Int × Int)) : List CV := (q.map encV).flatten
def sortF (f g : Nat) : CallF := fun f' l s => chk (Nat.beq f' f) ((sortArg g l).bind fun a => (s.xget a.b).bind fun x => (bagOf x).bind fun q => chk (Nat.beq q.os 2) ((pairsOf q.rows).bind fun ps => chk (Nat.blt 0 ps.length && Nat.beq ps.length a.n) (chk (Nat.blt ps.length 4611686018427387904)
  ((s.put a.b (some ⟨encL (isortP ps), q.elem, 2, none⟩)).bind fun s => some (.tup [], s)))))
noncomputable def sortK (f g : Nat) : CallK := fun f' l s => ib (Nat.beq f' f) (ob (sortArg g l) fun a => ob (xgetK s a.b) fun x => ob (bagOf x) fun q => ib (Nat.beq q.os 2) (ob (pairsOf q.rows) fun ps => ib (Nat.blt 0 ps.length && Nat.beq ps.length a.n) (ib (Nat.blt ps.length 4611686018427387904)
  (ob (putK s a.b (some ⟨encL (isortP ps), q.elem, 2, none⟩)) fun s => some (.tup [], s)) none) none) none) none
theorem sort_eq (f g : Nat) : CallEq (sortK f g) (sortF f g) := by
  intro f' l s
  unfold sortK sortF
  simp only [ib_eq, ob_eq, map_chk, map_bind', xgetK_eq]
  congr 1
  congr 1; funext a
  congr 1; funext x
  congr 1; funext q
  congr 1
  congr 1; funext ps
  congr 1
  congr 1
  rw [← putK_eq]
  cases putK s a.b (some ⟨encL (isortP ps), q.elem, 2, none⟩) <;> rfl
theorem sort_upd (f g : Nat) : CallUpd (sortF f g) := by
  intro f' l s v s' h ht
  simp only [sortF, chk_some, Option.bind_eq_some_iff] at h
  obtain ⟨_, a, _, x, h1, q, _, _, ps, _, _, _, s1, h2, h3⟩ := h
  cases h3
  obtain ⟨B, hB, _⟩ := xget_some.1 h1
  exact put_upd' ht h2 (by rw [hB]; rfl)
theorem cells_put {pre us tl : List Value} {F : Array Value} (h : F.size = us.length) : Go.Sort.putCells id pre.length F (pre ++ (us ++ tl)).toArray = (pre ++ (F.toList ++ tl)).toArray := by
  apply Array.ext_getElem?
  intro k
  simp only [Go.Sort.putCells, Array.getElem?_mapIdx, List.getElem?_toArray, id]
  by_cases h1 : k < pre.length
  · rw [List.getElem?_append_left h1, List.getElem?_append_left h1]
    have : ¬ (pre.length ≤ k ∧ k < pre.length + F.size) := by omega
    cases pre[k]? <;> simp [this]
  · rw [List.getElem?_append_right (by omega)]
    by_cases h2 : k < pre.length + us.length
    · have h3 : k - pre.length < us.length := by omega
      have h4 : k - pre.length < F.toList.length := by simp; omega
      rw [List.getElem?_append_left h3, List.getElem?_append_right (by omega), List.getElem?_append_left h4, List.getElem?_eq_getElem h3, List.getElem?_eq_getElem h4]
      simp only [Option.map_some]
      rw [if_pos (by omega), getElem!_pos F (k - pre.length) (by omega)]
      simp
    · rw [List.getElem?_append_right (by omega), List.getElem?_append_right (by omega), List.getElem?_append_right (by simp; omega)]
      have : ¬ (pre.length ≤ k ∧ k < pre.length + F.size) := by omega
      have e : k - pre.length - us.length = k - pre.length - F.toList.length := by simp; omega
      rw [e]
      cases tl[k - pre.length - F.toList.length]? <;> simp [this]
theorem sort_ok {P : Program} {K : Nat → Option Obj} {f g : Nat} (hent : ∀ args w, (callFunc f args).run P w = .ok (.enter f args) w)
    (hs : ∀ (blk off cap : Nat) (d : Array (Int × Int)) (w : World), HoldsK encP 2 w blk off d → blk < w.heap.size → 0 < d.size → d.size < 4611686018427387904 → Calls P f #[.slice (some ⟨blk, off, none⟩) d.size cap, .func (.func g) #[] #[]] w fun e w' => e = .returned (.tuple #[]) ∧ ∃ n os, w' = sortWorldK encP 2 w blk off n (d.toList.mergeSort leP).toArray os) :
    CallOk P K (sortF f g) := by
  intro f' l s v s' h φ w args hr hK hv
  simp only [sortF, chk_some, Option.bind_eq_some_iff] at h
  obtain ⟨hf, a, ha, x, h1, q, h2, h3, ps, h4, h5, h6, s1, h7, h8⟩ := h
  have hf := Nat.eq_of_beq_eq_true hf
  subst hf
  cases h8
  rw [Bool.and_eq_true, Nat.blt_eq] at h5
  have h50 := h5.1
  have h5 := Nat.eq_of_beq_eq_true h5.2
  have h3 := Nat.eq_of_beq_eq_true h3
  rw [Nat.blt_eq] at h6
  unfold sortArg at ha
  split at ha
  · rename_i b o n d g'
    simp only [chk_some] at ha
    obtain ⟨e1, e2, e3, e4⟩ := ha
    cases e4
    have e1 := Nat.eq_of_beq_eq_true e1; have e2 := Nat.eq_of_beq_eq_true e2; have e3 := Nat.eq_of_beq_eq_true e3
    subst e1; subst e2; subst e3
    have hx : x = .bag q.rows q.elem q.os := by
      unfold bagOf at h2
      split at h2
      · cases h2; rfl
      · cases h2
    rw [hx] at h1
    obtain ⟨p, oo, g1, g2, _, rows', pre, vals, tl, g3, g4, g5, rfl, g6⟩ := hr.xblk h1
    rw [pairsOf_some h4] at g4
    obtain ⟨q', hq', rfl⟩ := map_perm g4
    rw [VL_enc] at g5
    subst g5
    obtain ⟨u, u', hl⟩ : ∃ u u', args.toList = [u, u'] := by
      cases hl : args.toList with
      | nil => rw [hl] at hv; exact hv.elim
      | cons u us => cases us with
        | nil => rw [hl] at hv; exact hv.2.elim
        | cons u' us => cases us with
          | nil => exact ⟨u, u', rfl⟩
          | cons _ _ => rw [hl] at hv; exact hv.2.2.elim
    rw [hl] at hv
    obtain ⟨hv1, hv2, _⟩ := hv
    obtain ⟨p', hp', hv1⟩ := hv1
    rw [g1] at hp'; cases hp'
    obtain ⟨cs, hcs, hv2⟩ := hv2
    have hcs : cs = [] := by cases cs with
      | nil => rfl
      | cons _ _ => exact hcs.elim
    subst hcs
    have hlen : q'.length = n := by rw [hq'.length_eq]; exact h5
    obtain rfl : args = #[.slice (some ⟨p.1, p.3, none⟩) n (p.2 - 0), .func (.func g') #[] #[]] := by
      apply Array.ext'
      rw [hl, hv1, hv2]
      simp
    refine ⟨hent _ _, ?_⟩
    have hblk : p.1 < w.heap.size := (Array.getElem?_eq_some_iff.1 g2).1
    have hH : HoldsK encP 2 w p.1 p.3 q'.toArray := by
      intro j hj
      rw [flatK_list] at hj ⊢
      simp only [List.size_toArray] at hj
      constructor
      · rw [cell_at g2, ← g3]
        simp only [List.getElem?_toArray, id]
        rw [List.getElem?_append_right (by omega), Nat.add_sub_cancel_left, List.getElem?_append_left hj, List.getElem?_eq_getElem hj]
        rw [getElem!_pos _ j (by simpa using hj)]
        simp
      · exact frozen_at g2 _
    obtain ⟨B0, hB0, hB0x⟩ := xget_some.1 h1
    -- the end's state
    have fin : ∀ e w', (e = Ending.returned (.tuple #[]) ∧ ∃ n os, w' = sortWorldK encP 2 w p.1 p.3 n (q'.mergeSort leP).toArray os) → ∃ φ' u, Out φ s w φ' s' w' ∧ VA φ' (.tup []) u ∧ e = .returned u := by
      rintro e w' ⟨rfl, m, os, rfl⟩
      rw [merge_isort hq']
      have hsz : (flatK encP 2 (isortP ps).toArray).size = (q'.flatMap encP).length := by
        rw [flatK_list]
        simp only [List.size_toArray, len_flat]
        rw [(isortP_perm ps).length_eq, hq'.length_eq]
      have hrow : (putRowK encP 2 (Sort.ahead w m) p.1 p.3 (isortP ps).toArray).heap[p.1]? = some (.cells (pre ++ ((isortP ps).flatMap encP ++ tl)).toArray q.elem (0, 0)) := by
        unfold putRowK Go.Sort.putRow Go.Sort.mapBlock
        simp only [Array.getElem?_modify, if_true]
        show Option.map _ (w.heap[p.1]?) = _
        rw [g2]
        simp only [Option.map_some, Go.Sort.onCells]
        rw [← g3, cells_put hsz, flatK_list]
      have hout1 : Out φ s w φ s' (putRowK encP 2 (Sort.ahead w m) p.1 p.3 (isortP ps).toArray) := by
        refine put_outO (B' := ⟨encL (isortP ps), q.elem, 2, none⟩) hr hB0 g1 h7 hrow ?_ (fun k hk => ?_) ?_ ⟨rfl, rfl, rfl⟩
        · refine HO.of_cells (B := ⟨encL (isortP ps), q.elem, 2, none⟩) rfl ⟨pre, (isortP ps).flatMap encP, tl, g3, VL_enc.2 rfl, rfl, fun h => (by cases h), fun _ => ?_⟩
          show _ = p.2 * 2
          rw [h3] at g6
          rw [← g6]
          simp only [List.length_append, len_flat]
          rw [(isortP_perm ps).length_eq, hq'.length_eq]
        · unfold putRowK Go.Sort.putRow Go.Sort.mapBlock
          simp only [Array.getElem?_modify]
          rw [if_neg (Ne.symm hk)]
          rfl
        · unfold putRowK
          rw [Go.Sort.size_putRow]; rfl
      have hg : Grew (putRowK encP 2 (Sort.ahead w m) p.1 p.3 (isortP ps).toArray) (sortWorldK encP 2 w p.1 p.3 m (isortP ps).toArray os) := by
        unfold sortWorldK
        refine ⟨rfl, rfl, rfl, by simp [grow], fun r hr' => ?_⟩
        show ((putRowK encP 2 (Sort.ahead w m) p.1 p.3 (isortP ps).toArray).heap ++ os)[r]? = _
        rw [Array.getElem?_append_left hr']
      exact ⟨φ, .tuple #[], Out.trans hr hout1 (Out.same hout1.rel hg), ⟨[], trivial, rfl⟩, rfl⟩
    · have := hs p.1 p.3 (p.2 - 0) q'.toArray w hH hblk (by simp; rw [hq'.length_eq]; exact h50) (by simp; rw [hq'.length_eq]; exact h6)
      simp only [List.size_toArray, hlen] at this
      exact this.mono fun e w' he => fin e w' he
  · cases ha
/-! two hooks in a row -/
def orF (a b : CallF) : CallF := fun f l s => orE (a f l s) (b f l s)
noncomputable def orK (a b : CallK) : CallK := fun f l s => Option.rec (motive := fun _ => Option (AV × StK)) (b f l s) (fun r => some r) (a f l s)
theorem or_eq {a b : CallK} {a' b' : CallF} (h : CallEq a a') (k : CallEq b b') : CallEq (orK a b) (orF a' b') := by
  intro f l s
  unfold orK orF
  rw [← h f l s, ← k f l s]
  cases a f l s <;> rfl
theorem or_upd {a b : CallF} (h : CallUpd a) (k : CallUpd b) : CallUpd (orF a b) := by
  intro f l s v s' hc ht
  unfold orF orE at hc
  cases e : a f l s with
  | some r => rw [e] at hc; cases hc; exact h f l s v s' e ht
  | none => rw [e] at hc; exact k f l s v s' hc ht
theorem or_ok {P : Program} {K : Nat → Option Obj} {a b : CallF} (h : CallOk P K a) (k : CallOk P K b) : CallOk P K (orF a b) := by
  intro f l s v s' hc
  unfold orF orE at hc
  cases e : a f l s with
  | some r => rw [e] at hc; cases hc; exact h f l s v s' e
  | none => rw [e] at hc; exact k f l s v s' hc
end Go.Proofs.YtjbnkokcbhfdgabGreatDoor.Ev
