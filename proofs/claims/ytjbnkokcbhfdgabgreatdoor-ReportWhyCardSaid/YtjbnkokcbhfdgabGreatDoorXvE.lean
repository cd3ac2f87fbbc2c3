/- A drawn region: whatever the order, what the one order has. -/
import Derived.Test.YtjbnkokcbhfdgabGreatDoorXvD
namespace Go.Proofs.YtjbnkokcbhfdgabGreatDoor.Ev
open Go Go.RowKit
set_option linter.unusedVariables false
set_option linter.unusedSimpArgs false
set_option linter.unusedSectionVars false
set_option linter.unnecessarySimpa false
section
open Classical
/-! ### The orders -/
section orders
variable {P : Program} {ops : Array Oper} {Q : Exit → Act → World → Prop} {md : Region.Mode}

def ReadyAt (md : Region.Mode) (ops : Array Oper) (L : Nat → Prop) (i : Nat) : Prop := ∃ o, ops[i]? = some o ∧ ∀ e ∈ o.after, Region.binds md e = true → L e.on

theorem backs_all {L : Nat → Prop} (hn : ∀ i, i < ops.size → ¬ L i → ¬ ReadyAt md ops L i) : ∀ {l : List Oper} {i : Nat}, backs md i l = true → (∀ j o, l[j]? = some o → ops[i + j]? = some o) → (∀ j, j < i → L j) → ∀ j, j < i + l.length → L j
  | [], i, _, _, h, j, hj => h j (by simpa using hj)
  | o :: l, i, hb, ho, h, j, hj => by
    simp only [backs, Bool.and_eq_true, List.all_eq_true, Bool.or_eq_true, Bool.not_eq_true', Nat.blt_eq] at hb
    have hoi : ops[i]? = some o := by simpa using ho 0 o rfl
    refine backs_all hn (l := l) (i := i + 1) hb.2 (fun j' o' hj' => ?_) (fun j' hj' => ?_) j (by simp only [List.length_cons] at hj; omega)
    · rw [show i + 1 + j' = i + (j' + 1) by omega]; exact ho (j' + 1) o' (by simpa using hj')
    · by_cases e : j' = i
      · subst e
        by_cases hL : L j'
        · exact hL
        · refine absurd ⟨o, hoi, fun e he hbe => ?_⟩ (hn j' (Array.getElem?_eq_some_iff.1 hoi).1 hL)
          rcases hb.1 e (by simpa using he) with h3 | h3
          · rw [hbe] at h3; cases h3
          · exact h _ h3
      · exact h j' (by omega)

theorem topo_all {L : Nat → Prop} (hn : ∀ i, i < ops.size → ¬ L i → ¬ ReadyAt md ops L i) : ∀ {l seen : List Nat}, topo md ops.toList l seen = true → (∀ x ∈ seen, L x) → ∀ i, i < ops.size → L i
  | [], seen, h, hs, i, hi => by
    simp only [topo, List.all_eq_true, List.mem_range, Array.length_toList, List.contains_iff_mem] at h
    exact hs i (h i hi)
  | j :: l, seen, h, hs, i, hi => by
    simp only [topo, Bool.and_eq_true] at h
    obtain ⟨h1, h2⟩ := h
    refine topo_all hn h2 (fun x hx => ?_) i hi
    rcases List.mem_cons.1 hx with rfl | hx
    · cases ho : ops.toList[x]? with
      | none => rw [ho] at h1; cases h1
      | some o =>
        rw [ho] at h1
        simp only [List.all_eq_true, Bool.or_eq_true, Bool.not_eq_true', List.contains_iff_mem] at h1
        have ho' : ops[x]? = some o := by simpa using ho
        by_cases hL : L x
        · exact hL
        · refine absurd ⟨o, ho', fun e he hb => ?_⟩ (hn x (Array.getElem?_eq_some_iff.1 ho').1 hL)
          rcases h1 e (by simpa using he) with h3 | h3
          · rw [hb] at h3; cases h3
          · exact hs _ h3
    · exact hs x hx

def unl (listed : Array Bool) : Nat := listed.toList.count false

theorem unl_set {listed : Array Bool} {i : Nat} (h : listed[i]? = some false) : unl (listed.setIfInBounds i true) + 1 = unl listed := by
  unfold unl
  obtain ⟨h1, h2⟩ := Array.getElem?_eq_some_iff.1 h
  have h1' : i < listed.toList.length := by simpa using h1
  have h2' : listed.toList[i] = false := by simpa using h2
  have hp : 0 < List.count false listed.toList := List.count_pos_iff.2 (by rw [← h2']; exact List.getElem_mem h1')
  have hc := List.count_set (a := true) (b := false) h1'
  rw [h2'] at hc
  simp only [beq_self_eq_true, if_true] at hc
  have he : (if ((true : Bool) == false) = true then 1 else 0) = 0 := rfl
  rw [he] at hc
  rw [Array.toList_setIfInBounds, hc]
  omega

theorem wpAny_of {I : (Nat → Prop) → Act → World → Prop}
    (hstep : ∀ L a w i, I L a w → i < ops.size → ¬ L i → ReadyAt md ops L i → wpOp P ops Q i (fun a' w' => I (fun j => L j ∨ j = i) a' w') a w)
    (hend : ∀ L a w, I L a w → (∀ i, i < ops.size → L i) → Q .normal a w) (ho : ordE md ops = true) :
    ∀ fuel (listed : Array Bool) a w, listed.size = ops.size → unl listed ≤ fuel → I (fun i => listed.getD i false = true) a w → wpAny P md ops Q fuel listed a w := by
  have iff : ∀ (listed : Array Bool), listed.size = ops.size → ∀ i, (i ∈ Region.ready md ops listed ↔ (i < ops.size ∧ ¬ (listed.getD i false = true) ∧ ReadyAt md ops (fun i => listed.getD i false = true) i)) := by
    intro listed hs i
    rw [mem_ready]
    constructor
    · rintro ⟨h0, o, ho, h⟩
      have hi := (Array.getElem?_eq_some_iff.1 ho).1
      refine ⟨hi, ?_, o, ho, h⟩
      have hi' : i < listed.size := by omega
      simp [hi'] at h0 ⊢
      exact h0
    · rintro ⟨hi, h0, o, ho, h⟩
      refine ⟨?_, o, ho, h⟩
      have hi' : i < listed.size := by omega
      simp [hi'] at h0 ⊢
      exact h0
  have done : ∀ (listed : Array Bool) a w, listed.size = ops.size → Region.ready md ops listed = [] → I (fun i => listed.getD i false = true) a w → Q .normal a w := by
    intro listed a w hs hr hI
    have hno : ∀ i, i < ops.size → ¬ (listed.getD i false = true) → ¬ ReadyAt md ops (fun i => listed.getD i false = true) i := fun i hi hL hR => by
      have := (iff listed hs i).2 ⟨hi, hL, hR⟩
      rw [hr] at this; cases this
    refine hend _ a w hI ?_
    unfold ordE at ho
    rw [Bool.or_eq_true] at ho
    rcases ho with ho | ho
    · intro i hi
      exact backs_all hno ho (fun j o hj => by simpa using hj) (fun j hj => by omega) i (by simpa using hi)
    · exact topo_all hno ho (fun x hx => by cases hx)
  intro fuel
  induction fuel with
  | zero =>
    intro listed a w hs hu hI
    have hr : Region.ready md ops listed = [] := by
      cases h : Region.ready md ops listed with
      | nil => rfl
      | cons i l =>
        have hm : i ∈ Region.ready md ops listed := by rw [h]; simp
        obtain ⟨h1, h2, _⟩ := (iff listed hs i).1 hm
        have hi' : i < listed.size := by omega
        have : listed[i]? = some false := by simp [hi'] at h2 ⊢; exact h2
        have := unl_set this
        omega
    exact ⟨hr, done listed a w hs hr hI⟩
  | succ fuel ih =>
    intro listed a w hs hu hI
    refine ⟨fun hr => done listed a w hs hr hI, fun i hi => ?_⟩
    obtain ⟨h1, h2, h3⟩ := (iff listed hs i).1 hi
    refine wpOp_mono (fun a' w' h => ?_) (hstep _ a w i hI h1 h2 h3)
    have hi' : i < listed.size := by omega
    have hf : listed[i]? = some false := by simp [hi'] at h2 ⊢; exact h2
    refine ih (listed.setIfInBounds i true) a' w' (by simp [hs]) (by have := unl_set hf; omega) ?_
    have : (fun j => (listed.setIfInBounds i true).getD j false = true) = fun j => (listed.getD j false = true) ∨ j = i := by
      funext j
      by_cases hj : i = j
      · subst hj; simp [hi']
      · rw [getD_set_ne false hj]
        simp [Ne.symm hj]
    rw [this]
    exact h

/-- whatever the mode -/
theorem region_of {id : Nat} {a : Act} {w : World} (h : ∀ md, wpAny P md ops Q ops.size (Array.replicate ops.size false) a { w with drawn := w.drawn + 1 }) : (Code.region id ops true).wp P Q a w :=
  wp_region_draw fun t => by
    unfold Region.schedule
    split
    · exact wpAny_sound ops.size t _ a _ (h .any)
    · split
      · exact wpAny_sound ops.size _ _ a _ (h .text)
      · exact wpAny_sound ops.size _ _ a _ (h .gc)

theorem unl_start (n : Nat) : unl (Array.replicate n false) ≤ n := by
  unfold unl
  have := List.count_le_length (a := false) (l := (Array.replicate n false).toList)
  simp

end orders

/-! ### Masks -/
theorem maskOf_bit {acc : List Nat} : ∀ {l : List Edge} {m j : Nat}, Nat.testBit (maskOf acc l m) j = true → Nat.testBit m j = true ∨ ∃ e ∈ l, Region.binds .any e = true ∧ (j = e.on ∨ ∃ me, acc[e.on]? = some me ∧ Nat.testBit me j = true)
  | [], m, j, h => .inl h
  | e :: l, m, j, h => by
    unfold maskOf at h
    split at h
    · rename_i hb
      rcases maskOf_bit h with h | ⟨e', he', h⟩
      · simp only [Nat.testBit_or, Bool.or_eq_true, Nat.testBit_two_pow, decide_eq_true_eq] at h
        rcases h with (h | h) | h
        · exact .inl h
        · exact .inr ⟨e, by simp, hb, .inl h.symm⟩
        · cases ha : acc[e.on]? with
          | none => rw [ha] at h; simp at h
          | some me => rw [ha] at h; exact .inr ⟨e, by simp, hb, .inr ⟨me, ha, h⟩⟩
      · exact .inr ⟨e', by simp [he'], h⟩
    · rcases maskOf_bit h with h | ⟨e', he', h⟩
      · exact .inl h
      · exact .inr ⟨e', by simp [he'], h⟩

theorem masks_pre : ∀ {l : List Oper} {acc : List Nat} {i x : Nat}, acc[i]? = some x → (masks l acc)[i]? = some x
  | [], acc, i, x, h => h
  | o :: l, acc, i, x, h => by
    unfold masks
    exact masks_pre (by rw [List.getElem?_append_left (List.getElem?_eq_some_iff.1 h).1]; exact h)

theorem masks_bit : ∀ {l : List Oper} {acc : List Nat} {i m j : Nat} {o : Oper}, l[i]? = some o → (masks l acc)[acc.length + i]? = some m → Nat.testBit m j = true →
    ∃ e ∈ o.after, Region.binds .any e = true ∧ (j = e.on ∨ ∃ me, (masks l acc)[e.on]? = some me ∧ Nat.testBit me j = true)
  | [], acc, i, m, j, o, h, _, _ => by simp at h
  | o' :: l, acc, i, m, j, o, h, hm, hj => by
    unfold masks at hm
    cases i with
    | zero =>
      simp only [List.getElem?_cons_zero, Option.some.injEq] at h
      subst h
      have : (masks l (acc ++ [maskOf acc o'.after.toList 0]))[acc.length]? = some (maskOf acc o'.after.toList 0) := masks_pre (by simp)
      rw [Nat.add_zero, this] at hm
      cases hm
      rcases maskOf_bit hj with h | ⟨e, he, hb, h⟩
      · simp at h
      · refine ⟨e, by simpa using he, hb, ?_⟩
        rcases h with h | ⟨me, h1, h2⟩
        · exact .inl h
        · refine .inr ⟨me, ?_, h2⟩
          unfold masks
          exact masks_pre (by rw [List.getElem?_append_left (List.getElem?_eq_some_iff.1 h1).1]; exact h1)
    | succ i =>
      have hm' : (masks l (acc ++ [maskOf acc o'.after.toList 0]))[(acc ++ [maskOf acc o'.after.toList 0]).length + i]? = some m := by
        rw [← hm]; congr 1; simp; omega
      obtain ⟨e, he, hb, h1⟩ := masks_bit (i := i) (by simpa using h) hm' hj
      refine ⟨e, he, hb, ?_⟩
      rcases h1 with h1 | ⟨me, h1, h2⟩
      · exact .inl h1
      · exact .inr ⟨me, by unfold masks; exact h1, h2⟩

theorem maskL_bit : ∀ {l : List Tmp} {t : Tmp}, t ∈ l → Nat.testBit (maskL l) t = true
  | x :: l, t, h => by
    show Nat.testBit (2 ^ x ||| maskL l) t = true
    rw [Nat.testBit_or, Bool.or_eq_true]
    rcases List.mem_cons.1 h with rfl | h
    · exact .inl (by simp [Nat.testBit_two_pow])
    · exact .inr (maskL_bit h)
theorem land_bit {d m : Nat} (h : Nat.beq (Nat.land (2 ^ d) m) 0 = true) : Nat.testBit m d = false := by
  have h1 := Nat.eq_of_beq_eq_true h
  have h2 : Nat.testBit (2 ^ d &&& m) d = false := by
    rw [show (2 ^ d &&& m) = 0 from h1]; simp
  rw [Nat.testBit_and] at h2
  simpa [Nat.testBit_two_pow] using h2
theorem apartF_spec {ops : Array Oper} {x y : Oper} (h : apartF (infoOf ops x) (infoOf ops y) = true) : x.apart ops y = true := by
  simp only [apartF, Bool.and_eq_true, infoOf] at h
  obtain ⟨h1, h2⟩ := h
  unfold Oper.apart
  rw [Bool.and_eq_true]
  constructor
  · cases hx : x.dst with
    | none => rfl
    | some d =>
      rw [hx] at h1
      have h3 := land_bit (d := d) h1
      rw [show Nat.lor (maskL (y.looksAt ops)) (dbit y.dst) = (maskL (y.looksAt ops) ||| dbit y.dst) from rfl, Nat.testBit_or, Bool.or_eq_false_iff] at h3
      simp only [Bool.and_eq_true, Bool.not_eq_true', bne_iff_ne, ne_eq]
      refine ⟨?_, fun e => ?_⟩
      · cases hc : (y.looksAt ops).contains d with
        | false => rfl
        | true => rw [maskL_bit (by simpa using hc)] at h3; cases h3.1
      · rw [e] at h3
        have := h3.2
        simp [dbit, Nat.testBit_two_pow] at this
  · cases hy : y.dst with
    | none => rfl
    | some d =>
      rw [hy] at h2
      have h3 := land_bit (d := d) h2
      simp only [Bool.not_eq_true']
      cases hc : (x.looksAt ops).contains d with
      | false => rfl
      | true => rw [maskL_bit (by simpa using hc)] at h3; cases h3

theorem bit_spec {m j : Nat} (h : Nat.beq (Nat.mod (Nat.shiftRight m j) 2) 1 = true) : Nat.testBit m j = true := by
  have h1 := Nat.eq_of_beq_eq_true h
  rw [Nat.testBit_eq_decide_div_mod_eq, decide_eq_true_iff, ← Nat.shiftRight_eq_div_pow]
  exact h1

theorem infos_get {ops : Array Oper} : ∀ {l : List Oper} {i : Nat} {o : Oper}, l[i]? = some o → (infos ops l)[i]? = some (infoOf ops o)
  | [], i, o, h => by simp at h
  | x :: l, 0, o, h => by simp only [List.getElem?_cons_zero, Option.some.injEq] at h; subst h; rfl
  | x :: l, i + 1, o, h => by simpa [infos] using infos_get (i := i) (by simpa using h)

theorem apartsJ_spec {o : Nat × Nat} {m : Nat} : ∀ {l : List (Nat × Nat)} {j : Nat}, apartsJ o m j l = true → ∀ i p, l[i]? = some p → Nat.testBit m (j + i) = true ∨ apartF p o = true
  | [], j, _, i, p, h => by simp at h
  | q :: l, j, h, i, p, hp => by
    simp only [apartsJ, Bool.and_eq_true, Bool.or_eq_true] at h
    cases i with
    | zero =>
      simp only [List.getElem?_cons_zero, Option.some.injEq] at hp; subst hp; rw [Nat.add_zero]
      exact h.1.imp bit_spec id
    | succ i => have := apartsJ_spec h.2 i p (by simpa using hp); rw [show j + (i + 1) = j + 1 + i by omega]; exact this

theorem aparts_spec : ∀ {done l : List (Nat × Nat)} {ms : List Nat}, aparts done ms l = true → ∀ k o m, l[k]? = some o → ms[k]? = some m → ∀ i p, (done ++ l)[i]? = some p → i < done.length + k →
    Nat.testBit m i = true ∨ apartF p o = true
  | done, [], ms, _, k, o, m, h, _, _, _, _, _ => by simp at h
  | done, o' :: l, [], _, k, o, m, _, h, _, _, _, _ => by simp at h
  | done, o' :: l, m' :: ms, h, k, o, m, ho, hm, i, p, hp, hi => by
    simp only [aparts, Bool.and_eq_true] at h
    cases k with
    | zero =>
      simp only [List.getElem?_cons_zero, Option.some.injEq] at ho hm
      subst ho; subst hm
      rw [List.getElem?_append_left (by omega)] at hp
      have := apartsJ_spec h.1 i p hp
      rw [Nat.zero_add] at this
      exact this
    | succ k =>
      refine aparts_spec h.2 k o m (by simpa using ho) (by simpa using hm) i p (by rw [List.append_assoc]; exact hp) ?_
      simp; omega

theorem hideD_of {m k : Nat} : ∀ {l : List Done} {j i : Nat} {d : Done}, l[i]? = some d → Nat.testBit m (j + i) = false → ((d.lo ≤ k ∧ k < d.hi) ∨ d.wr k = true) → hideD m k j l = true
  | [], j, i, d, h, _, _ => by simp at h
  | q :: l, j, i, d, h, hm, ht => by
    simp only [hideD, Bool.or_eq_true, Bool.and_eq_true, Bool.not_eq_true']
    cases i with
    | zero =>
      simp only [List.getElem?_cons_zero, Option.some.injEq] at h
      subst h
      rw [Nat.add_zero] at hm
      refine .inl ⟨hm, ?_⟩
      rcases ht with ⟨h1, h2⟩ | h1
      · exact .inl ⟨by rw [Nat.ble_eq]; exact h1, by rw [Nat.blt_eq]; exact h2⟩
      · exact .inr h1
    | succ i => exact .inr (hideD_of (i := i) (by simpa using h) (by rw [← hm]; congr 1; omega) ht)

theorem hideG_of {i k : Nat} : ∀ {l : List (Nat × (Nat → Bool))} {j n : Nat} {p : Nat × (Nat → Bool)}, l[n]? = some p → i < j + n → Nat.testBit p.1 i = false → p.2 k = true → hideG i k j l = true
  | [], j, n, p, h, _, _, _ => by simp at h
  | q :: l, j, n, p, h, hi, hm, hk => by
    simp only [hideG, Bool.or_eq_true, Bool.and_eq_true, Bool.not_eq_true']
    cases n with
    | zero =>
      simp only [List.getElem?_cons_zero, Option.some.injEq] at h
      subst h
      exact .inl ⟨⟨by rw [Nat.blt_eq]; omega, hm⟩, hk⟩
    | succ n => exact .inr (hideG_of (n := n) (by simpa using h) (by omega) hm hk)
end
section
open Classical
def cut (φ : Mp) (n : Nat) : Mp := fun k => if k < n then φ k else none
theorem cut_ext (φ : Mp) (n : Nat) : Ext (cut φ n) φ := fun k p h => by unfold cut at h; split at h <;> first | exact h | cases h
theorem cut_some {φ : Mp} {n k : Nat} {p : Loc} (h : cut φ n k = some p) : k < n ∧ φ k = some p := by
  unfold cut at h; split at h
  · rename_i h1; exact ⟨h1, h⟩
  · cases h
theorem cut_of {φ : Mp} {n k : Nat} {p : Loc} (h1 : k < n) (h : φ k = some p) : cut φ n k = some p := by unfold cut; rw [if_pos h1]; exact h
theorem cut_mono {φ : Mp} {n m : Nat} (h : n ≤ m) : Ext (cut φ n) (cut φ m) := fun k p hk => by
  obtain ⟨h1, h2⟩ := cut_some hk; exact cut_of (by omega) h2

/-- the one order: what it had at each step -/
structure Can (ty : Nat → Option TI) (held : Nat → Bool) (call : CallF) (nt : Nat) (ops : Array Oper) (gs : List (Nat × (Nat → Bool))) (f0 : Nat → Bool) (X : Nat → DS) (M : Nat → Nat) (D : Nat → Done) (S : Nat → St) : Prop where
  ms : ∀ j o, ops[j]? = some o → (masks ops.toList [])[j]? = some (M j)
  st : ∀ j o, ops[j]? = some o → DStep ty held call nt ops.toList gs f0 o j (M j) (X j) (X (j + 1)) (D j) (S j)
  d0 : (X 0).ds = []
  top0 : ∀ k, (X 0).n ≤ k → (X 0).h k = none
  upd : CallUpd call
  ok : aparts [] (masks ops.toList []) (infos ops ops.toList) = true
  gsm : ∀ j o, ops[j]? = some o → ∀ k, (D j).wr k = true → ∃ p, gs[j]? = some p ∧ p.1 = M j ∧ p.2 k = true
  hs0 : (X 0).hs = []
  lk : ∀ l ∈ (X ops.size).lds, ldOk ty (masks ops.toList []) (X ops.size).ds ((X ops.size).hs ++ [(X ops.size).h]) l = true

section
variable {ty : Nat → Option TI} {held : Nat → Bool} {call : CallF} {nt : Nat} {ops : Array Oper} {gs : List (Nat × (Nat → Bool))} {f0 : Nat → Bool} {X : Nat → DS} {M : Nat → Nat} {D : Nat → Done} {S : Nat → St}

/-- the state that operation i sees -/
abbrev Can.si (X : Nat → DS) (M : Nat → Nat) (f0 : Nat → Bool) (gs : List (Nat × (Nat → Bool))) (i : Nat) : St := ⟨(X i).h, (X i).n, forbE f0 i (M i) (X i).ds gs, (X i).n, fun _ => false⟩


theorem Can.op (C : Can ty held call nt ops gs f0 X M D S) {i : Nat} (hi : i < ops.size) : ∃ o, ops[i]? = some o := ⟨_, Array.getElem?_eq_getElem hi⟩

theorem Can.tops (C : Can ty held call nt ops gs f0 X M D S) : ∀ {j : Nat}, j ≤ ops.size → (∀ k, (X j).n ≤ k → (X j).h k = none) ∧ (X j).ds.length = j ∧ ∀ i, i < j → (X j).ds[i]? = some (D i)
  | 0, _ => ⟨C.top0, by rw [C.d0]; rfl, fun i hi => by omega⟩
  | j + 1, hj => by
    obtain ⟨h1, h2, h3⟩ := Can.tops C (j := j) (by omega)
    obtain ⟨o, ho⟩ := C.op (i := j) (by omega)
    have st := C.st j o ho
    have hu := st.upd C.upd h1
    refine ⟨fun k hk => ?_, by rw [st.ds]; simp [h2], fun i hi => ?_⟩
    · rw [st.n] at hk; rw [st.h]; exact hu.high h1 k hk
    · rw [st.ds]
      by_cases hij : i < j
      · rw [List.getElem?_append_left (by omega)]; exact h3 i hij
      · have : i = j := by omega
        subst this
        rw [List.getElem?_append_right (by omega), h2]; simp

theorem Can.updS (C : Can ty held call nt ops gs f0 X M D S) {i : Nat} (hi : i < ops.size) : Upd (Can.si X M f0 gs i) (S i) := by
  obtain ⟨o, ho⟩ := C.op hi
  exact (C.st i o ho).upd C.upd (C.tops (by omega)).1

theorem Can.nle1 (C : Can ty held call nt ops gs f0 X M D S) {i : Nat} (hi : i < ops.size) : (X i).n ≤ (X (i + 1)).n := by
  obtain ⟨o, ho⟩ := C.op hi
  rw [(C.st i o ho).n]; exact (C.updS hi).n

theorem Can.nle (C : Can ty held call nt ops gs f0 X M D S) {a : Nat} : ∀ {b : Nat}, a ≤ b → b ≤ ops.size → (X a).n ≤ (X b).n
  | 0, h, _ => by have : a = 0 := by omega
                  subst this; exact Nat.le_refl _
  | b + 1, h, hb => by
    by_cases e : a = b + 1
    · subst e; exact Nat.le_refl _
    · exact Nat.le_trans (Can.nle C (by omega) (by omega)) (C.nle1 (by omega))

def Touch (X : Nat → DS) (D : Nat → Done) (i k : Nat) : Prop := ((X i).n ≤ k ∧ k < (X (i + 1)).n) ∨ (D i).wr k = true

theorem Can.wr_spec (C : Can ty held call nt ops gs f0 X M D S) {i k : Nat} (hi : i < ops.size) (h : (D i).wr k = true) : forbE f0 i (M i) (X i).ds gs k = false ∧ k < (X i).n := by
  obtain ⟨o, ho⟩ := C.op hi
  rw [(C.st i o ho).wr] at h
  rcases (C.updS hi).wt k h with h1 | h1
  · cases h1
  · exact h1

theorem Can.const1 (C : Can ty held call nt ops gs f0 X M D S) {i k : Nat} (hi : i < ops.size) (h : ¬ Touch X D i k) : (X (i + 1)).h k = (X i).h k := by
  obtain ⟨o, ho⟩ := C.op hi
  have st := C.st i o ho
  have hu := C.updS hi
  by_cases hk : k < (X i).n
  · rw [st.h]
    refine hu.kept k hk hk ?_
    cases hw : (S i).w k
    · rfl
    · exact absurd (.inr (by rw [st.wr]; exact hw)) h
  · have h2 : (X (i + 1)).n ≤ k := by
      rcases Nat.lt_or_ge k (X (i + 1)).n with h3 | h3
      · exact absurd (.inl ⟨by omega, h3⟩) h
      · exact h3
    rw [(C.tops (j := i + 1) (by omega)).1 k h2, (C.tops (j := i) (by omega)).1 k (by omega)]

theorem Can.const (C : Can ty held call nt ops gs f0 X M D S) {a k : Nat} : ∀ {b : Nat}, a ≤ b → b ≤ ops.size → (∀ i, a ≤ i → i < b → ¬ Touch X D i k) → (X b).h k = (X a).h k
  | 0, h, _, _ => by have : a = 0 := by omega
                     subst this; rfl
  | b + 1, h, hb, ht => by
    by_cases e : a = b + 1
    · subst e; rfl
    · rw [C.const1 (by omega) (ht b (by omega) (by omega))]
      exact Can.const C (by omega) (by omega) fun i h1 h2 => ht i h1 (by omega)

theorem Can.constT1 (C : Can ty held call nt ops gs f0 X M D S) {i t : Nat} {o : Oper} (ho : ops[i]? = some o) (h : o.dst ≠ some t) : (X (i + 1)).T t = (X i).T t := by
  have put : ∀ {v : AV} {T T' : TM}, putE nt T o.dst v = some T' → T' t = T t := by
    intro v T T' hp
    unfold putE at hp
    split at hp
    · cases hp; rfl
    · rename_i d hd
      rw [chk_some] at hp
      obtain ⟨_, hp⟩ := hp
      cases hp
      unfold Ev.upd
      rw [if_neg (fun e => h (by rw [e]; exact hd))]
  rcases (C.st i o ho).run with ⟨_, v, _, hp⟩ | ⟨_, _, hp⟩ | ⟨_, _, l, _, _, hp⟩
  · exact put hp
  · exact put hp
  · exact put hp

theorem Can.constT (C : Can ty held call nt ops gs f0 X M D S) {a t : Nat} : ∀ {b : Nat}, a ≤ b → b ≤ ops.size → (∀ i o, a ≤ i → i < b → ops[i]? = some o → o.dst ≠ some t) → (X b).T t = (X a).T t
  | 0, h, _, _ => by have : a = 0 := by omega
                     subst this; rfl
  | b + 1, h, hb, ht => by
    by_cases e : a = b + 1
    · subst e; rfl
    · obtain ⟨o, ho⟩ := C.op (i := b) (by omega)
      rw [C.constT1 ho (ht b o (by omega) (by omega) ho)]
      exact Can.constT C (by omega) (by omega) fun i o h1 h2 => ht i o h1 (by omega)

theorem Can.lds_le (C : Can ty held call nt ops gs f0 X M D S) {l : Ld} {a : Nat} : ∀ {b : Nat}, a ≤ b → b ≤ ops.size → l ∈ (X a).lds → l ∈ (X b).lds
  | 0, h, _, hl => by have : a = 0 := by omega
                      subst this; exact hl
  | b + 1, h, hb, hl => by
    by_cases e : a = b + 1
    · subst e; exact hl
    · obtain ⟨o, ho⟩ := C.op (i := b) (by omega)
      exact (C.st b o ho).lds l (Can.lds_le C (by omega) (by omega) hl)

theorem Can.hsat (C : Can ty held call nt ops gs f0 X M D S) : ∀ {j : Nat}, j ≤ ops.size → (X j).hs.length = j ∧ ∀ i, i < j → (X j).hs[i]? = some (X i).h
  | 0, _ => by rw [C.hs0]; exact ⟨rfl, fun i hi => by omega⟩
  | j + 1, hj => by
    obtain ⟨h2, h3⟩ := Can.hsat C (j := j) (by omega)
    obtain ⟨o, ho⟩ := C.op (i := j) (by omega)
    have st := C.st j o ho
    refine ⟨by rw [st.hs]; simp [h2], fun i hi => ?_⟩
    rw [st.hs]
    by_cases hij : i < j
    · rw [List.getElem?_append_left (by omega)]; exact h3 i hij
    · have : i = j := by omega
      subst this
      rw [List.getElem?_append_right (by omega), h2]; simp

theorem loV_le {m : Nat} : ∀ {l : List Bool} {j : Nat} {B : Nat}, (∀ i b, l[i]? = some b → b = true → Nat.testBit m (j + i) = true → j + i < B) → loV m j l ≤ B
  | [], _, _, _ => Nat.zero_le _
  | b :: l, j, B, h => by
    have ih := loV_le (l := l) (j := j + 1) (m := m) (B := B) (fun i b' hb h1 h2 => by
      have := h (i + 1) b' (by simpa using hb) h1 (by rw [← h2]; congr 1; omega)
      omega)
    unfold loV
    split
    · rename_i hb
      simp only [Bool.and_eq_true] at hb
      have := h 0 b rfl hb.1 (by rw [Nat.add_zero]; exact hb.2)
      exact Nat.max_le.2 ⟨by omega, ih⟩
    · exact ih
theorem hiV_ge {i : Nat} : ∀ {l : List Bool} {ms : List Nat} {j B : Nat}, B ≤ j + l.length → l.length ≤ ms.length → (∀ k b m, l[k]? = some b → b = true → ms[k]? = some m → Nat.testBit m i = true → B ≤ j + k) → B ≤ hiV i j l ms
  | [], ms, j, B, h, _, _ => by cases ms <;> simpa [hiV] using h
  | b :: l, [], j, B, h, h2, _ => by simp at h2
  | b :: l, m :: ms, j, B, h, h2, hh => by
    unfold hiV
    split
    · rename_i hb
      simp only [Bool.and_eq_true] at hb
      have := hh 0 b m rfl hb.1 rfl hb.2
      omega
    · exact hiV_ge (by simp at h; omega) (by simpa using h2) (fun k b' m' h3 h4 h5 h6 => by
        have := hh (k + 1) b' m' (by simpa using h3) h4 (by simpa using h5) h6
        omega)
theorem versOk_at {v : TV} {lo hi : Nat} : ∀ {l : List (Option TV)} {j k : Nat} {x : Option TV}, versOk v lo hi j l = true → l[k]? = some x → lo ≤ j + k → j + k ≤ hi → x = some v
  | [], j, k, x, _, h, _, _ => by simp at h
  | y :: l, j, k, x, h, hk, h1, h2 => by
    simp only [versOk, Bool.and_eq_true] at h
    cases k with
    | zero =>
      simp only [List.getElem?_cons_zero, Option.some.injEq] at hk
      subst hk
      have hb : (Nat.ble lo j && Nat.ble j hi) = true := by simp only [Bool.and_eq_true, Nat.ble_eq]; omega
      have h : sameO v y = true := by have := h.1; rw [hb] at this; exact this
      cases y with
      | none => cases h
      | some u => rw [sameT_eq (show sameT u v = true from h)]
    | succ k => exact versOk_at h.2 (by simpa using hk) (by omega) (by omega)

/-- a version of a block that a loose load may meet is as it was read -/
theorem Can.version (C : Can ty held call nt ops gs f0 X M D S) {l : Ld} (hl : l ∈ (X ops.size).lds) (hli : l.i < ops.size) {j : Nat} (hj : j ≤ ops.size)
    (h1 : ∀ m, m < ops.size → Touch X D m l.b → Nat.testBit l.m m = true → m < j) (h2 : ∀ m, m < ops.size → Touch X D m l.b → Nat.testBit (M m) l.i = true → j ≤ m) : loadH ty l.t ((X j).h l.b) l.o = some l.v := by
  have h := C.lk l hl
  unfold ldOk at h
  have hds := C.tops (Nat.le_refl ops.size)
  have hhs := C.hsat (Nat.le_refl ops.size)
  have tch : ∀ k b, ((X ops.size).ds.map fun d => touches d l.b)[k]? = some b → b = true → k < ops.size ∧ Touch X D k l.b := by
    intro k b hk hb
    rw [List.getElem?_map] at hk
    have hlt : k < ops.size := by
      rcases Nat.lt_or_ge k ops.size with h | h
      · exact h
      · rw [List.getElem?_eq_none (by rw [hds.2.1]; exact h)] at hk; cases hk
    rw [hds.2.2 k hlt] at hk
    simp only [Option.map_some, Option.some.injEq] at hk
    subst hk
    obtain ⟨o, ho⟩ := C.op hlt
    have st := C.st k o ho
    simp only [touches, Bool.or_eq_true, Bool.and_eq_true, Nat.ble_eq, Nat.blt_eq, st.lo, st.hi] at hb
    exact ⟨hlt, hb⟩
  refine versOk_at h (k := j) ?_ ?_ ?_
  · rw [List.getElem?_map]
    have : ((X ops.size).hs ++ [(X ops.size).h])[j]? = some (X j).h := by
      by_cases e : j < ops.size
      · rw [List.getElem?_append_left (by rw [hhs.1]; exact e)]; exact hhs.2 j e
      · have : j = ops.size := by omega
        subst this
        rw [List.getElem?_append_right (by rw [hhs.1]; exact Nat.le_refl _), hhs.1]; simp
    rw [this]; rfl
  · refine loV_le fun i b hi hb hm => ?_
    obtain ⟨g1, g2⟩ := tch i b hi hb
    rw [Nat.zero_add] at hm ⊢
    have := h1 i g1 g2 hm
    omega
  · rw [Nat.zero_add]
    have hml : ∀ (l : List Oper) (acc : List Nat), (masks l acc).length = acc.length + l.length := by
      intro l
      induction l with
      | nil => intro acc; simp [masks]
      | cons o l ih => intro acc; unfold masks; rw [ih]; simp; omega
    refine hiV_ge (by rw [List.length_map, hds.2.1]; omega) (by rw [List.length_map, hds.2.1, hml]; simp) fun k b m hk hb hm ht => ?_
    obtain ⟨g1, g2⟩ := tch k b hk hb
    obtain ⟨o, ho⟩ := C.op g1
    rw [C.ms k o ho] at hm
    cases hm
    have := h2 k g1 g2 ht
    omega

/-- hidden: what an operation ahead that does not stand before j has touched -/
theorem Can.hid (C : Can ty held call nt ops gs f0 X M D S) {i j k : Nat} (hij : i < j) (hj : j < ops.size) (hm : Nat.testBit (M j) i = false) (ht : Touch X D i k) : forbE f0 j (M j) (X j).ds gs k = true := by
  have hd := (C.tops (j := j) (by omega)).2.2 i hij
  obtain ⟨o, ho⟩ := C.op (i := i) (by omega)
  have st := C.st i o ho
  have : hideD (M j) k 0 (X j).ds = true := hideD_of hd (by rw [Nat.zero_add]; exact hm) (by rw [st.lo, st.hi]; exact ht)
  simp [forbE, this]

/-- hidden: what one behind, that i does not stand before, will write -/
theorem Can.hidG (C : Can ty held call nt ops gs f0 X M D S) {i j k : Nat} (hij : i < j) (hj : j < ops.size) (hm : Nat.testBit (M j) i = false) (ht : (D j).wr k = true) : forbE f0 i (M i) (X i).ds gs k = true := by
  obtain ⟨o, ho⟩ := C.op hj
  obtain ⟨p, h1, h2, h3⟩ := C.gsm j o ho k ht
  have : hideG i k 0 gs = true := hideG_of h1 (by omega) (by rw [h2]; exact hm) h3
  simp [forbE, this]

theorem Can.apart (C : Can ty held call nt ops gs f0 X M D S) {i j : Nat} {oi oj : Oper} (hi : ops[i]? = some oi) (hj : ops[j]? = some oj) (hij : i < j) (hm : Nat.testBit (M j) i = false) : oi.apart ops oj = true := by
  have := aparts_spec C.ok j (infoOf ops oj) (M j) (infos_get (by simpa using hj)) (C.ms j oj hj) i (infoOf ops oi) (by rw [List.nil_append]; exact infos_get (by simpa using hi)) (by simpa using hij)
  rcases this with h | h
  · rw [hm] at h; cases h
  · exact apartF_spec h

/-- what is done is closed under 'stands before' -/
def Closed (ops : Array Oper) (M : Nat → Nat) (L : Nat → Prop) : Prop := ∀ i, i < ops.size → L i → ∀ j, Nat.testBit (M i) j = true → L j

theorem Can.before (C : Can ty held call nt ops gs f0 X M D S) {md : Region.Mode} {L : Nat → Prop} (hcl : Closed ops M L) {i : Nat} (hi : i < ops.size) (hr : ReadyAt md ops L i) : ∀ j, Nat.testBit (M i) j = true → L j := by
  obtain ⟨o, ho, he⟩ := hr
  intro j hj
  have hm := C.ms i o ho
  obtain ⟨e, he', hb, h1⟩ := masks_bit (l := ops.toList) (acc := []) (i := i) (by simpa using ho) (by simpa using hm) hj
  have hbm : Region.binds md e = true := by
    unfold Region.binds at hb ⊢
    split at hb <;> simp_all
  have hL := he e he' hbm
  rcases h1 with h1 | ⟨me, h1, h2⟩
  · rw [h1]; exact hL
  · have hlt : e.on < ops.size := by
      rcases Nat.lt_or_ge e.on ops.size with h | h
      · exact h
      · have hlen : ∀ (l : List Oper) (acc : List Nat), (masks l acc).length = acc.length + l.length := by
          intro l
          induction l with
          | nil => intro acc; simp [masks]
          | cons o l ih => intro acc; unfold masks; rw [ih]; simp; omega
        have := (List.getElem?_eq_some_iff.1 h1).1
        rw [hlen] at this
        simp at this
        omega
    obtain ⟨o2, ho2⟩ := C.op hlt
    have := C.ms e.on o2 ho2
    rw [this] at h1
    cases h1
    exact hcl e.on hlt hL j h2

def Settled (ops : Array Oper) (X : Nat → DS) (D : Nat → Done) (L : Nat → Prop) (k j : Nat) : Prop := ∀ i, i < ops.size → Touch X D i k → (L i ↔ i < j)
def SettledT (ops : Array Oper) (L : Nat → Prop) (t j : Nat) : Prop := ∀ i o, ops[i]? = some o → o.dst = some t → (L i ↔ i < j)

theorem Can.settled_eq (C : Can ty held call nt ops gs f0 X M D S) {L : Nat → Prop} {k a b : Nat} (ha : a ≤ ops.size) (hb : b ≤ ops.size) (h1 : Settled ops X D L k a) (h2 : Settled ops X D L k b) : (X a).h k = (X b).h k := by
  rcases Nat.le_total a b with h | h
  · exact (C.const h hb fun i h3 h4 ht => by have e1 := h1 i (by omega) ht; have e2 := h2 i (by omega) ht; have := e1.1 (e2.2 h4); omega).symm
  · exact C.const h ha fun i h3 h4 ht => by have e1 := h1 i (by omega) ht; have e2 := h2 i (by omega) ht; have := e2.1 (e1.2 h4); omega

/-- what operation i sees is settled when it comes -/
theorem Can.visible (C : Can ty held call nt ops gs f0 X M D S) {L : Nat → Prop} {i k : Nat} {B : BK} (hi : i < ops.size) (hcl : Closed ops M L) (hb : ∀ j, Nat.testBit (M i) j = true → L j) (hn : ¬ L i)
    (hf : forbE f0 i (M i) (X i).ds gs k = false) (hh : (X i).h k = some B) : Settled ops X D L k i := by
  intro j hj ht
  rcases Nat.lt_trichotomy j i with h | h | h
  · cases hm : Nat.testBit (M i) j with
    | false => rw [C.hid h hi hm ht] at hf; cases hf
    | true => exact ⟨fun _ => h, fun _ => hb j hm⟩
  · subst h; exact ⟨fun h => absurd h hn, fun h => by omega⟩
  · refine ⟨fun hL => ?_, fun h' => by omega⟩
    exfalso
    cases hm : Nat.testBit (M j) i with
    | true => exact hn (hcl j hj hL i hm)
    | false =>
      rcases ht with ⟨h1, h2⟩ | h1
      · have := C.nle (a := i) (b := j) (by omega) (by omega)
        rw [(C.tops (j := i) (by omega)).1 k (by omega)] at hh; cases hh
      · rw [C.hidG h hj hm h1] at hf; cases hf

/-- a temporary that operation i looks at is settled when it comes -/
theorem Can.settledT (C : Can ty held call nt ops gs f0 X M D S) {L : Nat → Prop} {i t : Nat} {o : Oper} (ho : ops[i]? = some o) (hcl : Closed ops M L) (hb : ∀ j, Nat.testBit (M i) j = true → L j) (hn : ¬ L i) (ht : t ∈ o.looksAt ops) : SettledT ops L t i := by
  have hi := (Array.getElem?_eq_some_iff.1 ho).1
  intro j p hp hd
  have hj := (Array.getElem?_eq_some_iff.1 hp).1
  rcases Nat.lt_trichotomy j i with h | h | h
  · cases hm : Nat.testBit (M i) j with
    | false =>
      have := (Oper.apart_spec (C.apart hp ho h hm)).1 t hd
      exact absurd ht this
    | true => exact ⟨fun _ => h, fun _ => hb j hm⟩
  · subst h; exact ⟨fun h => absurd h hn, fun h => by omega⟩
  · refine ⟨fun hL => ?_, fun h' => by omega⟩
    exfalso
    cases hm : Nat.testBit (M j) i with
    | true => exact hn (hcl j hj hL i hm)
    | false => exact (Oper.apart_spec (C.apart ho hp h hm)).2.2 t hd ht

end

/-- the relation -/
structure Inv (nt : Nat) (ops : Array Oper) (f0 : Nat → Bool) (X : Nat → DS) (M : Nat → Nat) (D : Nat → Done) (φ0 : Mp) (s0 : St) (w0 : World) (L : Nat → Prop) (φ : Mp) (a : Act) (w : World) : Prop where
  closed : Closed ops M L
  ext : Ext φ0 φ
  asize : a.tmps.size = nt
  defers : a.defers = []
  tmp : ∀ t j v, j ≤ ops.size → SettledT ops L t j → (X j).T t = some v → ∃ u, a.tmps[t]? = some u ∧ VA (cut φ (X j).n) v u
  blk : ∀ k j B, j ≤ ops.size → Settled ops X D L k j → (X j).h k = some B → f0 k = false → ∃ p c, φ k = some p ∧ w.heap[p.1]? = some c ∧ HO (cut φ (X j).n) B p c
  inj : ∀ k j B k' j' B' p p', j ≤ ops.size → j' ≤ ops.size → Settled ops X D L k j → Settled ops X D L k' j' → (X j).h k = some B → (X j').h k' = some B' → f0 k = false → f0 k' = false →
    φ k = some p → φ k' = some p' → p.1 = p'.1 → k = k'
  fresh : ∀ k, (X ops.size).n ≤ k → φ k = none
  fresh2 : ∀ i, i < ops.size → ¬ L i → ∀ k, (X i).n ≤ k → k < (X (i + 1)).n → φ k = none
  os : w.os = w0.os
  tape : w.tape = w0.tape
  output : w.output = w0.output
  size : w0.heap.size ≤ w.heap.size
  keep : ∀ r, r < w0.heap.size → ¬ Seen φ0 s0 r → w.heap[r]? = w0.heap[r]?
  new : ∀ k p, φ0 k = none → φ k = some p → w0.heap.size ≤ p.1 ∨ Seen φ0 s0 p.1
  old : ∀ k, k < s0.n → φ k = φ0 k

section
variable {ty : Nat → Option TI} {held : Nat → Bool} {call : CallF} {nt : Nat} {ops : Array Oper} {gs : List (Nat × (Nat → Bool))} {f0 : Nat → Bool} {X : Nat → DS} {M : Nat → Nat} {D : Nat → Done} {S : Nat → St}
  {φ0 : Mp} {s0 : St} {w0 : World} {L : Nat → Prop} {φ : Mp} {a : Act} {w : World}

/-- a block's operations stand in a row: each state is one of its versions -/
theorem Can.chain (C : Can ty held call nt ops gs f0 X M D S) {k i j : Nat} (hij : i < j) (hj : j < ops.size) (h1 : Touch X D i k) (h2 : Touch X D j k) : Nat.testBit (M j) i = true := by
  cases hm : Nat.testBit (M j) i with
  | true => rfl
  | false =>
    exfalso
    have hh := C.hid hij hj hm h1
    rcases h2 with ⟨h3, h4⟩ | h3
    · have hle : (X (i + 1)).n ≤ (X j).n := C.nle (by omega) (by omega)
      rcases h1 with ⟨h5, h6⟩ | h5
      · omega
      · have := (C.wr_spec (by omega) h5).2
        have : (X i).n ≤ (X (i + 1)).n := C.nle1 (by omega)
        omega
    · rw [(C.wr_spec hj h3).1] at hh; cases hh

theorem Can.some_version (C : Can ty held call nt ops gs f0 X M D S) (hcl : Closed ops M L) (k : Nat) : ∃ j, j ≤ ops.size ∧ Settled ops X D L k j := by
  -- the last one that is done
  have : ∀ n, n ≤ ops.size → ∃ j, j ≤ n ∧ (∀ i, j ≤ i → i < n → Touch X D i k → ¬ L i) ∧ (j = 0 ∨ (Touch X D (j - 1) k ∧ L (j - 1) ∧ 0 < j)) := by
    intro n
    induction n with
    | zero => intro _; exact ⟨0, Nat.le_refl _, fun i h1 h2 => by omega, .inl rfl⟩
    | succ n ih =>
      intro hn
      by_cases h : Touch X D n k ∧ L n
      · exact ⟨n + 1, Nat.le_refl _, fun i h1 h2 => by omega, .inr ⟨h.1, h.2, by omega⟩⟩
      · obtain ⟨j, h1, h2, h3⟩ := ih (by omega)
        refine ⟨j, by omega, fun i h4 h5 ht hL => ?_, h3⟩
        by_cases e : i = n
        · subst e; exact h ⟨ht, hL⟩
        · exact h2 i h4 (by omega) ht hL
  obtain ⟨j, h1, h2, h3⟩ := this ops.size (Nat.le_refl _)
  refine ⟨j, h1, fun i hi ht => ⟨fun hL => ?_, fun hij => ?_⟩⟩
  · rcases Nat.lt_or_ge i j with h | h
    · exact h
    · exact absurd hL (h2 i h hi ht)
  · rcases h3 with h3 | ⟨h4, h5, h6⟩
    · omega
    · by_cases e : i = j - 1
      · subst e; exact h5
      · exact hcl (j - 1) (by omega) h5 i (C.chain (by omega) (by omega) ht h4)

/-- what operation i sees stands in the world -/
theorem Inv.rel (C : Can ty held call nt ops gs f0 X M D S) (I : Inv nt ops f0 X M D φ0 s0 w0 L φ a w) {i : Nat} (hi : i < ops.size) (hb : ∀ j, Nat.testBit (M i) j = true → L j) (hn : ¬ L i) :
    Rel (cut φ (X i).n) (Can.si X M f0 gs i) w := by
  have vis : ∀ k B, (Can.si X M f0 gs i).get k = some B → forbE f0 i (M i) (X i).ds gs k = false ∧ (X i).h k = some B ∧ Settled ops X D L k i ∧ k < (X i).n := by
    intro k B hk
    rw [St.get_some] at hk
    refine ⟨hk.1, hk.2, C.visible hi I.closed hb hn hk.1 hk.2, ?_⟩
    rcases Nat.lt_or_ge k (X i).n with h | h
    · exact h
    · have := (C.tops (j := i) (by omega)).1 k h
      have hk2 : (X i).h k = some B := hk.2
      rw [hk2] at this; cases this
  refine ⟨fun k B hk => ?_, fun k k' B B' p p' h1 h2 h3 h4 h5 => ?_, fun k hk => ?_, (C.tops (j := i) (by omega)).1⟩
  · obtain ⟨h1, h2, h3, h4⟩ := vis k B hk
    obtain ⟨p, c, g1, g2, g3⟩ := I.blk k i B (by omega) h3 h2 (forb_f0 h1)
    exact ⟨p, c, cut_of h4 g1, g2, g3⟩
  · obtain ⟨a1, a2, a3, a4⟩ := vis k B h1
    obtain ⟨b1, b2, b3, b4⟩ := vis k' B' h2
    exact I.inj k i B k' i B' p p' (by omega) (by omega) a3 b3 a2 b2 (forb_f0 a1) (forb_f0 b1) (cut_some h3).2 (cut_some h4).2 h5
  · unfold cut; rw [if_neg (by have : (Can.si X M f0 gs i).n = (X i).n := rfl; omega)]
end
end
section
open Classical
section
variable {P : Program} {ty : Nat → Option TI} {held : Nat → Bool} {call : CallF} {nt : Nat} {ops : Array Oper} {gs : List (Nat × (Nat → Bool))} {f0 : Nat → Bool} {X : Nat → DS} {M : Nat → Nat} {D : Nat → Done} {S : Nat → St}
  {φ0 : Mp} {s0 : St} {w0 : World} {L : Nat → Prop} {φ : Mp} {a : Act} {w : World}

theorem VP.cutr {φ φ' : Mp} {n : Nat} : ∀ {l : List (Nat × Nat)} {vs vs' : List Value}, VP (cut φ n) l vs → VP φ' l vs' → VP (cut φ' n) l vs'
  | [], [], [], _, _ => trivial
  | (b, o) :: l, v :: vs, v' :: vs', ⟨⟨p, h1, _⟩, h⟩, ⟨⟨p', h2, h3⟩, h'⟩ => ⟨⟨p', cut_of (cut_some h1).1 h2, h3⟩, VP.cutr h h'⟩
theorem VC.cutr {φ φ' : Mp} {n : Nat} {c : CV} {u u' : Value} (h : VC (cut φ n) c u) (h' : VC φ' c u') : VC (cut φ' n) c u' := by
  cases c with
  | slice b o n' cp => cases cp <;> (obtain ⟨p, h1, _⟩ := h; obtain ⟨p', h2, h3⟩ := h'; exact ⟨p', cut_of (cut_some h1).1 h2, h3⟩)
  | ptr b o => obtain ⟨p, h1, _⟩ := h; obtain ⟨p', h2, h3⟩ := h'; exact ⟨p', cut_of (cut_some h1).1 h2, h3⟩
  | iface t b o => obtain ⟨p, h1, _⟩ := h; obtain ⟨p', h2, h3⟩ := h'; exact ⟨p', cut_of (cut_some h1).1 h2, h3⟩
  | map b => obtain ⟨p, h1, _⟩ := h; obtain ⟨p', h2, h3⟩ := h'; exact ⟨p', cut_of (cut_some h1).1 h2, h3⟩
  | stail b d sz => obtain ⟨p, h1, _⟩ := h; obtain ⟨p', h2, h3⟩ := h'; exact ⟨p', cut_of (cut_some h1).1 h2, h3⟩
  | func f l => obtain ⟨p, h1, _⟩ := h; obtain ⟨p', h2, h3⟩ := h'; exact ⟨p', VP.cutr h1 h2, h3⟩
  | _ => exact h'
theorem VL.cutr {φ φ' : Mp} {n : Nat} : ∀ {l : List CV} {vs vs' : List Value}, VL (cut φ n) l vs → VL φ' l vs' → VL (cut φ' n) l vs'
  | [], [], [], _, _ => trivial
  | _ :: _, _ :: _, _ :: _, ⟨h, k⟩, ⟨h', k'⟩ => ⟨VC.cutr h h', VL.cutr k k'⟩
theorem Holds.cutr {φ φ' : Mp} {n : Nat} {p p' : Loc} {B : BK} {c c' : Array Value} (h : Holds (cut φ n) B p c) (h' : Holds φ' B p' c') : Holds (cut φ' n) B p' c' := by
  obtain ⟨pre, l, tl, h0, h1, _⟩ := h
  obtain ⟨pre', l', tl', h0', h2, h3⟩ := h'
  exact ⟨pre', l', tl', h0', VL.cutr h1 h2, h3⟩
theorem VT.cutr {φ φ' : Mp} {n : Nat} {c : TV} {u u' : Value} (h : VT (cut φ n) c u) (h' : VT φ' c u') : VT (cut φ' n) c u' := by
  cases c with
  | c v => exact VC.cutr h h'
  | agg l => obtain ⟨vs, h1, _⟩ := h; obtain ⟨us, h2, h3⟩ := h'; exact ⟨us, VL.cutr h1 h2, h3⟩
theorem Rows.cutr {φ φ' : Mp} {n : Nat} : ∀ {l : List Row} {es es' : List MapEntry}, Rows (cut φ n) l es → Rows φ' l es' → Rows (cut φ' n) l es'
  | [], [], [], _, _ => trivial
  | _ :: _, _ :: _, _ :: _, ⟨h, k⟩, ⟨h', k'⟩ => ⟨⟨h'.1, VT.cutr h.2.1 h'.2.1, VT.cutr h.2.2 h'.2.2⟩, Rows.cutr k k'⟩
theorem HO.cutr {φ φ' : Mp} {n : Nat} {p p' : Loc} {B : BK} {c c' : Obj} (h : HO (cut φ n) B p c) (h' : HO φ' B p' c') : HO (cut φ' n) B p' c' := by
  cases hx : B.x with
  | none =>
    obtain ⟨d, rfl, h1⟩ := h.cells hx
    obtain ⟨d', rfl, h2⟩ := h'.cells hx
    exact HO.of_cells hx (h1.cutr h2)
  | some x =>
    obtain ⟨_, h1⟩ := h.other hx
    obtain ⟨g, h2⟩ := h'.other hx
    unfold HO
    rw [hx]
    refine ⟨g, ?_⟩
    cases x with
    | map rows c =>
      obtain ⟨es, _, h3⟩ := h1
      obtain ⟨es', h4, h5⟩ := h2
      exact ⟨es', h4, h3.cutr h5⟩
    | iter m a l b =>
      obtain ⟨r, h3, _⟩ := h1
      obtain ⟨r', h5, h6⟩ := h2
      refine ⟨r', ?_, h6⟩
      cases m with
      | none => exact h5
      | some m =>
        obtain ⟨q, h7, _⟩ := h3
        obtain ⟨q', h8, h9⟩ := h5
        exact ⟨q', cut_of (cut_some h7).1 h8, h9⟩
    | bag rows e o => exact h2

theorem Can.low (C : Can ty held call nt ops gs f0 X M D S) {k : Nat} (hk : k < (X 0).n) : ∀ {i : Nat}, i ≤ ops.size → (X i).h k = (X 0).h k ∨ ((X 0).h k).isSome = true
  | 0, _ => .inl rfl
  | i + 1, hi => by
    obtain ⟨o, ho⟩ := C.op (i := i) (by omega)
    have st := C.st i o ho
    have hu := C.updS (i := i) (by omega)
    have hlt : k < (X i).n := Nat.lt_of_lt_of_le hk (C.nle (by omega) (by omega))
    rw [st.h]
    rcases Can.low C hk (i := i) (by omega) with e | e
    · rcases hu.low k hlt with e2 | e2
      · left; rw [e2]; exact e
      · right
        cases hg : (Can.si X M f0 gs i).get k with
        | none => rw [hg] at e2; cases e2
        | some B =>
          rw [St.get_some] at hg
          have : (X i).h k = some B := hg.2
          rw [← e, this]; rfl
    · exact .inr e

def join (X : Nat → DS) (i : Nat) (φ φ' : Mp) : Mp := fun k => if (X i).n ≤ k ∧ k < (X (i + 1)).n then φ' k else φ k

theorem Inv.step (C : Can ty held call nt ops gs f0 X M D S) (I : Inv nt ops f0 X M D φ0 s0 w0 L φ a w) (hs0 : s0.h = (X 0).h ∧ s0.n = (X 0).n ∧ s0.forb = f0) (hr0 : Rel φ0 s0 w0) {i : Nat} {o : Oper} (ho : ops[i]? = some o) (hb : ∀ j, Nat.testBit (M i) j = true → L j) (hn : ¬ L i)
    {φ' : Mp} {w' : World} {v : AV} {u : Value} (hout : Out (cut φ (X i).n) (Can.si X M f0 gs i) w φ' (S i) w') (hv : VA φ' v u) (hp : putE nt (X i).T o.dst v = some (X (i + 1)).T) :
    ∃ φ2, Inv nt ops f0 X M D φ0 s0 w0 (fun j => L j ∨ j = i) φ2 (a.put o.dst u) w' := by
  have hi := (Array.getElem?_eq_some_iff.1 ho).1
  have st := C.st i o ho
  have hni : (X i).n ≤ (X (i + 1)).n := C.nle1 hi
  have hN : (X (i + 1)).n ≤ (X ops.size).n := C.nle (by omega) (by omega)
  have hrel := hout.rel
  have hsn : (S i).n = (X (i + 1)).n := st.n.symm
  -- the joint mapping
  have hfree : ∀ k, (X i).n ≤ k → k < (X (i + 1)).n → φ k = none := I.fresh2 i hi hn
  have e1 : Ext φ (join X i φ φ') := fun k p hk => by
    unfold join
    rw [if_neg (fun h => by rw [hfree k h.1 h.2] at hk; cases hk)]
    exact hk
  have hold : ∀ k, k < (X i).n → φ' k = φ k := fun k hk => by
    rw [hout.old k hk]; unfold cut; rw [if_pos hk]
  have hnone : ∀ k, (X (i + 1)).n ≤ k → φ' k = none := fun k hk => hrel.fresh k (by rw [hsn]; exact hk)
  have hjoin : ∀ k, k < (X (i + 1)).n → join X i φ φ' k = φ' k := fun k hk => by
    unfold join
    by_cases h : (X i).n ≤ k
    · rw [if_pos ⟨h, hk⟩]
    · rw [if_neg (fun h' => h h'.1), hold k (by omega)]
  have hjoin' : ∀ k, ¬ ((X i).n ≤ k ∧ k < (X (i + 1)).n) → join X i φ φ' k = φ k := fun k hk => by unfold join; rw [if_neg hk]
  have e2 : Ext φ' (cut (join X i φ φ') (X (i + 1)).n) := fun k p hk => by
    have hlt : k < (X (i + 1)).n := by
      rcases Nat.lt_or_ge k (X (i + 1)).n with h | h
      · exact h
      · rw [hnone k h] at hk; cases hk
    exact cut_of hlt (by rw [hjoin k hlt]; exact hk)
  have e3 : ∀ n, Ext (cut φ n) (cut (join X i φ φ') n) := fun n k p hk => by
    obtain ⟨h1, h2⟩ := cut_some hk
    exact cut_of h1 (e1 k p h2)
  -- settledness behind the step
  have nt1 : ∀ {k j}, j ≤ ops.size → Settled ops X D (fun j => L j ∨ j = i) k j → ¬ Touch X D i k → Settled ops X D L k j := by
    intro k j hj hs ht m hm htm
    have := hs m hm htm
    have hmi : m ≠ i := fun e => ht (e ▸ htm)
    simpa [hmi] using this
  -- a block that i has touched is as the step leaves it
  have tch : ∀ {k j}, j ≤ ops.size → Settled ops X D (fun j => L j ∨ j = i) k j → Touch X D i k → i < j ∧ (X j).h k = (X (i + 1)).h k := by
    intro k j hj hs ht
    have hij : i < j := (hs i hi ht).1 (.inr rfl)
    refine ⟨hij, C.const (by omega) hj fun m h1 h2 htm => ?_⟩
    have hm : m < ops.size := by omega
    have hL := (hs m hm htm).2 h2
    rcases hL with hL | hL
    · cases hmm : Nat.testBit (M m) i with
      | true => exact hn (I.closed m hm hL i hmm)
      | false =>
        have hh := C.hid (i := i) (j := m) (by omega) hm hmm ht
        rcases htm with ⟨h3, h4⟩ | h3
        · -- a number of m's own: not touched by i
          have : (X (i + 1)).n ≤ (X m).n := C.nle (by omega) (by omega)
          rcases ht with ⟨h5, h6⟩ | h5
          · omega
          · have := (C.wr_spec hi h5).2; omega
        · rw [(C.wr_spec hm h3).1] at hh; cases hh
    · omega
  -- what i touched and what lies there is seen behind it
  have seen : ∀ {k B}, Touch X D i k → (X (i + 1)).h k = some B → (S i).get k = some B := by
    intro k B ht hk
    rw [st.h] at hk
    rw [St.get_some]
    refine ⟨?_, hk⟩
    rw [hout.upd.forb]
    cases hf : forbE f0 i (M i) (X i).ds gs k with
    | false => exact hf
    | true =>
      exfalso
      rcases ht with ⟨h1, h2⟩ | h1
      · have := hout.upd.hid k hf
        rw [hk] at this
        have h3 := (C.tops (j := i) (by omega)).1 k h1
        have this' : some B = (X i).h k := this
        rw [h3] at this'; cases this'
      · rw [(C.wr_spec hi h1).1] at hf; cases hf
  -- a block that i has not touched: either i saw it, and sees it still, or its row stands as it stood
  have vis : ∀ {k j B}, j ≤ ops.size → Settled ops X D L k j → ¬ Touch X D i k → (X j).h k = some B → forbE f0 i (M i) (X i).ds gs k = false → k < (X i).n → (X i).h k = some B → (S i).get k = some B := by
    intro k j B hj hs ht hk hf hlt hki
    rw [St.get_some]
    refine ⟨by rw [hout.upd.forb]; exact hf, ?_⟩
    rw [← st.h, C.const1 hi ht]; exact hki
  have rowkeep : ∀ {k j B p}, j ≤ ops.size → Settled ops X D L k j → (X j).h k = some B → f0 k = false → φ k = some p → (∀ B', (Can.si X M f0 gs i).get k ≠ some B') → p.1 < w.heap.size → w'.heap[p.1]? = w.heap[p.1]? ∧ ¬ Seen (cut φ (X i).n) (Can.si X M f0 gs i) p.1 := by
    intro k j B p hj hs hk hf0 hφ hnv hlt
    have hns : ¬ Seen (cut φ (X i).n) (Can.si X M f0 gs i) p.1 := by
      rintro ⟨k', B', p', h1, h2, h3⟩
      have h1' := h1
      rw [St.get_some] at h1
      have hs' := C.visible hi I.closed hb hn h1.1 h1.2
      have := I.inj k j B k' i B' p p' hj (by omega) hs hs' hk h1.2 hf0 (forb_f0 h1.1) hφ (cut_some h2).2 h3.symm
      subst this
      exact hnv B' h1'
    exact ⟨hout.keep p.1 hlt hns, hns⟩
  have seen0 : ∀ {r}, Seen (cut φ (X i).n) (Can.si X M f0 gs i) r → w0.heap.size ≤ r ∨ Seen φ0 s0 r := by
    rintro r ⟨k, B, p, h1, h2, rfl⟩
    rw [St.get_some] at h1
    have hφ := (cut_some h2).2
    cases h0 : φ0 k with
    | none => exact I.new k p h0 hφ
    | some q =>
      have := I.ext k q h0
      rw [hφ] at this; cases this
      have hk0 : k < s0.n := by
        rcases Nat.lt_or_ge k s0.n with h | h
        · exact h
        · rw [hr0.fresh k h] at h0; cases h0
      have hf := forb_f0 h1.1
      have hh : (X i).h k = some B := h1.2
      have hsome : ((X 0).h k).isSome = true := by
        rcases C.low (k := k) (by rw [← hs0.2.1]; exact hk0) (i := i) (by omega) with e | e
        · rw [← e, hh]; rfl
        · exact e
      obtain ⟨B0, hB0⟩ := Option.isSome_iff_exists.1 hsome
      exact .inr ⟨k, B0, p, by rw [St.get_some, hs0.2.2, hs0.1]; exact ⟨hf, hB0⟩, h0, rfl⟩
  refine ⟨join X i φ φ', ⟨fun j hj hL m hm => ?_, fun k p hk => e1 k p (I.ext k p hk), ?_, ?_, fun t j v' hj hs hv' => ?_, fun k j B hj hs hk hf0 => ?_, fun k j B k' j' B' p p' hj hj' hs hs' hk hk' hf hf' h1 h2 h3 => ?_, fun k hk => ?_, fun m hm hL k h1 h2 => ?_,
    hout.os.trans I.os, hout.tape.trans I.tape, hout.output.trans I.output, Nat.le_trans I.size hout.size, fun r h1 h2 => ?_, fun k p h1 h2 => ?_, fun k hk => ?_⟩⟩
  · -- closed
    rcases hL with hL | rfl
    · exact .inl (I.closed j hj hL m hm)
    · exact .inl (hb m hm)
  · cases o.dst <;> simp [Act.put, I.asize]
  · cases o.dst <;> exact I.defers
  · -- temporaries
    by_cases hd : o.dst = some t
    · have hij : i < j := (hs i o ho hd).1 (.inr rfl)
      have hc : (X j).T t = (X (i + 1)).T t := C.constT (by omega) hj fun m om h1 h2 hom hdm => by
        have hm : m < ops.size := by omega
        have hL := (hs m om hom hdm).2 h2
        rcases hL with hL | hL
        · cases hmm : Nat.testBit (M m) i with
          | true => exact hn (I.closed m hm hL i hmm)
          | false =>
            have := (Oper.apart_spec (C.apart ho hom (by omega) hmm)).2.1 t hd
            exact this hdm
        · omega
      rw [hc] at hv'
      rw [hd] at hp
      simp only [putE, chk_some, Nat.blt_eq] at hp
      obtain ⟨h1, h2⟩ := hp
      have h3 : (X (i + 1)).T t = some v := by
        have := Option.some.inj h2
        rw [← this]; simp [Ev.upd]
      rw [h3] at hv'
      cases hv'
      refine ⟨u, by rw [hd]; simp [Act.put, I.asize, h1], VA.mono ?_ hv⟩
      exact e2.trans (cut_mono (C.nle (by omega) hj))
    · have hs2 : SettledT ops L t j := fun m om hom hdm => by
        have := hs m om hom hdm
        have hmi : m ≠ i := fun e => hd (by subst e; rw [ho] at hom; cases hom; exact hdm)
        simpa [hmi] using this
      obtain ⟨u', h1, h2⟩ := I.tmp t j v' hj hs2 hv'
      refine ⟨u', ?_, VA.mono (e3 _) h2⟩
      cases hdd : o.dst with
      | none => exact h1
      | some d =>
        have : d ≠ t := fun e => hd (by rw [hdd, e])
        simp only [Act.put]
        rw [Array.getElem?_setIfInBounds_ne this]
        exact h1
  · -- blocks
    by_cases ht : Touch X D i k
    · obtain ⟨hij, hc⟩ := tch hj hs ht
      rw [hc] at hk
      obtain ⟨p, c, h1, h2, h3⟩ := hrel.blk k B (seen ht hk)
      refine ⟨p, c, cut_ext _ _ k p (e2 k p h1), h2, h3.mono (e2.trans (cut_mono (C.nle (by omega) hj)))⟩
    · have hs2 := nt1 hj hs ht
      obtain ⟨p, c, h1, h2, h3⟩ := I.blk k j B hj hs2 hk hf0
      suffices ∃ c, w'.heap[p.1]? = some c ∧ HO (cut (join X i φ φ') (X j).n) B p c by
        obtain ⟨c, g1, g2⟩ := this
        exact ⟨p, c, e1 k p h1, g1, g2⟩
      cases hg : (Can.si X M f0 gs i).get k with
      | none => exact ⟨c, by rw [(rowkeep hj hs2 hk hf0 h1 (fun B' => by rw [hg]; simp) (Array.getElem?_eq_some_iff.1 h2).1).1]; exact h2, h3.mono (e3 _)⟩
      | some B2 =>
        have hg' := hg
        rw [St.get_some] at hg
        have hsi := C.visible hi I.closed hb hn hg.1 hg.2
        have he := C.settled_eq (a := i) (b := j) (by omega) hj hsi hs2
        have hki : (X i).h k = some B := by rw [he]; exact hk
        have hlt : k < (X i).n := by
          rcases Nat.lt_or_ge k (X i).n with h | h
          · exact h
          · rw [(C.tops (j := i) (by omega)).1 k h] at hki; cases hki
        have hS := vis hj hs2 ht hk hg.1 hlt hki
        obtain ⟨p', c', g1, g2, g3⟩ := hrel.blk k B hS
        rw [hold k hlt, h1] at g1
        cases g1
        refine ⟨c', g2, (h3.cutr g3).mono (fun k' p' hk' => ?_)⟩
        obtain ⟨q1, q2⟩ := cut_some hk'
        have hlt' : k' < (X (i + 1)).n := by
          rcases Nat.lt_or_ge k' (X (i + 1)).n with h | h
          · exact h
          · rw [hnone k' h] at q2; cases q2
        exact cut_of q1 (by rw [hjoin k' hlt']; exact q2)
  · -- no two numbers name one row
    have cls : ∀ {k j B p}, j ≤ ops.size → Settled ops X D (fun j => L j ∨ j = i) k j → (X j).h k = some B → f0 k = false → join X i φ φ' k = some p →
        ((S i).get k = some B ∧ φ' k = some p) ∨ (Settled ops X D L k j ∧ φ k = some p ∧ p.1 < w.heap.size ∧ ¬ Seen (cut φ (X i).n) (Can.si X M f0 gs i) p.1) := by
      intro k j B p hj hs hk hf hp'
      by_cases ht : Touch X D i k
      · obtain ⟨hij, hc⟩ := tch hj hs ht
        rw [hc] at hk
        have hsn := seen ht hk
        obtain ⟨q, c, g1, _, _⟩ := hrel.blk k B hsn
        have := cut_ext _ _ k q (e2 k q g1)
        rw [hp'] at this; cases this
        exact .inl ⟨hsn, g1⟩
      · have hs2 := nt1 hj hs ht
        obtain ⟨q, c, g1, g2, g3⟩ := I.blk k j B hj hs2 hk hf
        have := e1 k q g1
        rw [hp'] at this; cases this
        have hlt := (Array.getElem?_eq_some_iff.1 g2).1
        cases hg : (Can.si X M f0 gs i).get k with
        | none => exact .inr ⟨hs2, g1, hlt, (rowkeep hj hs2 hk hf g1 (fun B' => by rw [hg]; simp) hlt).2⟩
        | some B2 =>
          rw [St.get_some] at hg
          have hsi := C.visible hi I.closed hb hn hg.1 hg.2
          have he := C.settled_eq (a := i) (b := j) (by omega) hj hsi hs2
          have hki : (X i).h k = some B := by rw [he]; exact hk
          have hltk : k < (X i).n := by
            rcases Nat.lt_or_ge k (X i).n with h | h
            · exact h
            · rw [(C.tops (j := i) (by omega)).1 k h] at hki; cases hki
          exact .inl ⟨vis hj hs2 ht hk hg.1 hltk hki, by rw [hold k hltk]; exact g1⟩
    have mix : ∀ {k B p p' : _}, (S i).get k = some B → φ' k = some p → p'.1 < w.heap.size → ¬ Seen (cut φ (X i).n) (Can.si X M f0 gs i) (p' : Loc).1 → (p : Loc).1 = p'.1 → False := by
      intro k B p p' h1 h2 h3 h4 h5
      rcases hout.seen (I.rel C hi hb hn) ⟨k, B, p, h1, h2, h5⟩ with h6 | h6
      · omega
      · exact h4 h6
    rcases cls hj hs hk hf h1 with ⟨a1, a2⟩ | ⟨a1, a2, a3, a4⟩
    · rcases cls hj' hs' hk' hf' h2 with ⟨b1, b2⟩ | ⟨b1, b2, b3, b4⟩
      · exact hrel.inj k k' B B' p p' a1 b1 a2 b2 h3
      · exact (mix a1 a2 b3 b4 h3).elim
    · rcases cls hj' hs' hk' hf' h2 with ⟨b1, b2⟩ | ⟨b1, b2, b3, b4⟩
      · exact (mix b1 b2 a3 a4 h3.symm).elim
      · exact I.inj k j B k' j' B' p p' hj hj' a1 b1 hk hk' hf hf' a2 b2 h3
  · rw [hjoin' k (fun h => by omega)]
    exact I.fresh k hk
  · rw [hjoin' k (fun h => ?_)]
    · exact I.fresh2 m hm (fun h => hL (.inl h)) k h1 h2
    · have hmi : m ≠ i := fun e => hL (.inr e)
      rcases Nat.lt_or_gt_of_ne hmi with h3 | h3
      · have := C.nle (a := m + 1) (b := i) (by omega) (by omega); omega
      · have := C.nle (a := i + 1) (b := m) (by omega) (by omega); omega
  · rw [hout.keep r (Nat.lt_of_lt_of_le h1 I.size) (fun h3 => ?_)]
    · exact I.keep r h1 h2
    · rcases seen0 h3 with h4 | h4
      · omega
      · exact h2 h4
  · by_cases hk : (X i).n ≤ k ∧ k < (X (i + 1)).n
    · rw [hjoin k hk.2] at h2
      have hc : cut φ (X i).n k = none := by unfold cut; rw [if_neg (by omega)]
      rcases hout.new k p hc h2 with h3 | h3
      · exact .inl (Nat.le_trans I.size h3)
      · exact seen0 h3
    · rw [hjoin' k hk] at h2
      exact I.new k p h1 h2
  · have : (X 0).n ≤ (X i).n := C.nle (by omega) (by omega)
    rw [hjoin' k (fun h => by rw [hs0.2.1] at hk; omega)]
    exact I.old k hk
end
end
section
open Classical
section
variable {P : Program} {ty : Nat → Option TI} {held : Nat → Bool} {call : CallF} {nt : Nat}

theorem guess0_fst (ms : List Nat) : (guess0 ms).map (·.1) = ms := by simp [guess0, Function.comp_def]
theorem guess1_fst : ∀ (ms : List Nat) (ds : List Done), (guess1 ms ds).map (·.1) = ms
  | [], _ => rfl
  | m :: ms, [] => by simp only [guess1, List.map_cons]; rw [guess1_fst ms []]
  | m :: ms, d :: ds => by simp only [guess1, List.map_cons]; rw [guess1_fst ms ds]

theorem VP.below {φ : Mp} {n m : Nat} : ∀ {l : List (Nat × Nat)} {vs : List Value}, VP (cut φ n) l vs → belowP m l = true → VP (cut φ m) l vs
  | [], [], _, _ => trivial
  | (b, o) :: l, v :: vs, ⟨⟨p, h1, h2⟩, h⟩, hb => by
    simp only [belowP, Bool.and_eq_true, Nat.blt_eq] at hb
    exact ⟨⟨p, cut_of hb.1 (cut_some h1).2, h2⟩, VP.below h hb.2⟩
theorem VC.below {φ : Mp} {n m : Nat} {c : CV} {u : Value} (h : VC (cut φ n) c u) (hb : belowC m c = true) : VC (cut φ m) c u := by
  cases c with
  | slice b o n' cp =>
    have hb2 : b < m := by simpa [belowC, Nat.blt_eq] using hb
    cases cp <;> (obtain ⟨p, h1, h2⟩ := h; exact ⟨p, cut_of hb2 (cut_some h1).2, h2⟩)
  | ptr b o =>
    have hb : b < m := by simpa [belowC, Nat.blt_eq] using hb
    obtain ⟨p, h1, h2⟩ := h; exact ⟨p, cut_of hb (cut_some h1).2, h2⟩
  | iface t b o =>
    have hb : b < m := by simpa [belowC, Nat.blt_eq] using hb
    obtain ⟨p, h1, h2⟩ := h; exact ⟨p, cut_of hb (cut_some h1).2, h2⟩
  | map b =>
    have hb : b < m := by simpa [belowC, Nat.blt_eq] using hb
    obtain ⟨p, h1, h2⟩ := h; exact ⟨p, cut_of hb (cut_some h1).2, h2⟩
  | stail b d sz =>
    have hb : b < m := by simpa [belowC, Nat.blt_eq] using hb
    obtain ⟨p, h1, h2⟩ := h; exact ⟨p, cut_of hb (cut_some h1).2, h2⟩
  | func f l => obtain ⟨cs, h1, h2⟩ := h; exact ⟨cs, VP.below h1 hb, h2⟩
  | _ => exact h
theorem VL.below {φ : Mp} {n m : Nat} : ∀ {l : List CV} {vs : List Value}, VL (cut φ n) l vs → belowL m l = true → VL (cut φ m) l vs
  | [], [], _, _ => trivial
  | _ :: _, _ :: _, ⟨h, k⟩, hb => by
    simp only [belowL, Bool.and_eq_true] at hb
    exact ⟨VC.below h hb.1, VL.below k hb.2⟩
theorem VT.below {φ : Mp} {n m : Nat} {c : TV} {u : Value} (h : VT (cut φ n) c u) (hb : belowT m c = true) : VT (cut φ m) c u := by
  cases c with
  | c v => exact VC.below h hb
  | agg l => obtain ⟨vs, h1, h2⟩ := h; exact ⟨vs, VL.below h1 hb, h2⟩

theorem looseE_some {op : Op} {T : TM} {f0 : Nat → Bool} {h : Nat → Option BK} {n i m : Nat} {l : Ld} (hl : looseE ty op T f0 h n i m = some l) :
    ∃ a, op = .load l.t a ∧ evc T a = some (.ptr l.b l.o) ∧ f0 l.b = false ∧ belowT n l.v = true ∧ l.i = i ∧ l.m = m := by
  unfold looseE at hl
  split at hl
  · rename_i t a
    simp only [Option.bind_eq_some_iff, chk_some, Bool.not_eq_true'] at hl
    obtain ⟨v, h1, p, h2, h3, r, h4, h5, h6⟩ := hl
    cases h6
    rw [ptrOf_some h2] at h1
    exact ⟨a, rfl, h1, h3, h5, rfl, rfl⟩
  · cases hl

/-- a loose load, whenever it comes -/
theorem Inv.loose {ops : Array Oper} {gs : List (Nat × (Nat → Bool))} {f0 : Nat → Bool} {X : Nat → DS} {M : Nat → Nat} {D : Nat → Done} {S : Nat → St} {φ0 : Mp} {s0 : St} {w0 : World} {L : Nat → Prop} {φ : Mp} {a : Act} {w : World}
    (E : Env P ty held) (C : Can ty held call nt ops gs f0 X M D S) (I : Inv nt ops f0 X M D φ0 s0 w0 L φ a w) {i : Nat} (hi : i < ops.size) (hb : ∀ j, Nat.testBit (M i) j = true → L j) (hn : ¬ L i) {l : Ld} (hl : l ∈ (X ops.size).lds)
    (hli : l.i = i) (hlm : l.m = M i) (hf : f0 l.b = false) (hbl : belowT (X i).n l.v = true) {x : Value} (hx : VC (cut φ (X i).n) (.ptr l.b l.o) x) : ∃ u, VT (cut φ (X i).n) l.v u ∧ (Instr.loadAt l.t x).run P w = .ok u w := by
  obtain ⟨j, hj, hs⟩ := C.some_version I.closed l.b
  have hv := C.version hl (by rw [hli]; exact hi) hj (fun m hm ht hbit => (hs m hm ht).1 (hb m (by rw [← hlm]; exact hbit))) (fun m hm ht hbit => by
    rcases Nat.lt_or_ge m j with h | h
    · exact absurd (I.closed m hm ((hs m hm ht).2 h) i (by rw [← hli]; exact hbit)) hn
    · exact h)
  simp only [loadH, Option.bind_eq_some_iff] at hv
  obtain ⟨B, ⟨B', h1, h2⟩, ti, h3, h4⟩ := hv
  unfold plainB at h2
  split at h2
  · rename_i hx0
    cases h2
    obtain ⟨p, o, g1, g2, g3⟩ := I.blk l.b j B hj hs h1 hf
    obtain ⟨c, rfl, g4⟩ := g3.cells hx0
    obtain ⟨p', k1, k2⟩ := hx
    have := (cut_some k1).2
    rw [g1] at this; cases this
    obtain ⟨u, f1, f2⟩ := loadC_ok (P := P) E g2 g4 h3 h4
    exact ⟨u, f1.below hbl, by rw [k2]; exact f2⟩
  · cases h2

theorem draw_sound {K : Nat → Option Obj} (E : Env P ty held) (hc : CallOk P K call) (hcu : CallUpd call) {id : Nat} {gs : List (Nat × (Nat → Bool))} {ops : Array Oper} {T T' : TM} {s s' : St} {y : DS} {φ : Mp} {a : Act} {w : World} {Q : Exit → Act → World → Prop}
    (hok : regOk ops = true) (hgs : gs.map (·.1) = masks ops.toList []) (h : drawG ty held call nt gs ops T s = some y) (hg : Guessed y.ds gs) (hlo : looseOk ty ops y = true) (hf : finD s y = some (T', s')) (hr : Rel φ s w) (hK : Kept K φ w) (ha : AR φ nt T a)
    (hk : ∀ φ' a' w', Out φ s w φ' s' w' → AR φ' nt T' a' → Q .normal a' w') : (Code.region id ops true).wp P Q a w := by
  have hup := draw_upd hcu hr.top h hf
  obtain ⟨X, h0, hN, hst⟩ := drawE_steps h
  simp only [regOk, Bool.and_eq_true] at hok
  obtain ⟨ok1, ok2, ok3, ok4⟩ := hok
  have hord : ∀ md, ordE md ops = true := fun md => by cases md <;> assumption
  -- the steps' own
  have sk : ∀ j, ∃ F : Nat × Done × St, ∀ o, ops[j]? = some o → (masks ops.toList [])[j]? = some F.1 ∧ DStep ty held call nt ops.toList gs s.forb o j F.1 (X j) (X (j + 1)) F.2.1 F.2.2 := by
    intro j
    cases ho : ops[j]? with
    | none => exact ⟨(0, ⟨0, 0, fun _ => false⟩, s), fun o h => by cases h⟩
    | some o =>
      obtain ⟨m, h1, h2⟩ := hst j o (by simpa using ho)
      rw [Nat.zero_add] at h2
      obtain ⟨d, s1, h3⟩ := draw1_step h2
      exact ⟨(m, d, s1), fun o' h => by cases h; exact ⟨h1, h3⟩⟩
  obtain ⟨F, hF⟩ := Classical.skolem.1 sk
  have hNs : X ops.size = y := by rw [← hN]; simp
  -- the writes are guessed: asks where each stands in y.ds
  have Cpre : ∀ {j : Nat}, j ≤ ops.size → (X j).ds.length = j ∧ ∀ i, i < j → (X j).ds[i]? = some (F i).2.1 := by
    intro j
    induction j with
    | zero => intro _; rw [h0]; exact ⟨rfl, fun i hi => by omega⟩
    | succ j ih =>
      intro hj
      obtain ⟨h1, h2⟩ := ih (by omega)
      have ho := Array.getElem?_eq_getElem (xs := ops) (i := j) (by omega)
      have st := (hF j _ ho).2
      refine ⟨by rw [st.ds]; simp [h1], fun i hi => ?_⟩
      rw [st.ds]
      by_cases hij : i < j
      · rw [List.getElem?_append_left (by omega)]; exact h2 i hij
      · have : i = j := by omega
        subst this
        rw [List.getElem?_append_right (by omega), h1]; simp
  have C : Can ty held call nt ops gs s.forb X (fun j => (F j).1) (fun j => (F j).2.1) (fun j => (F j).2.2) := by
    refine ⟨fun j o ho => (hF j o ho).1, fun j o ho => (hF j o ho).2, by rw [h0], by rw [h0]; exact hr.top, hcu, ok1, fun j o ho k hw => ?_, by rw [h0], fun l hl => ?_⟩
    rotate_left
    · rw [hNs] at hl ⊢
      have key : ∀ (q : List Ld), ldsOk ty (masks ops.toList []) y.ds (y.hs ++ [y.h]) q = true → ∀ l ∈ q, ldOk ty (masks ops.toList []) y.ds (y.hs ++ [y.h]) l = true := by
        intro q
        induction q with
        | nil => intro _ l h; cases h
        | cons a q ih =>
          intro h l hm
          simp only [ldsOk, Bool.and_eq_true] at h
          rcases List.mem_cons.1 hm with rfl | hm
          · exact h.1
          · exact ih h.2 l hm
      exact key _ hlo l hl
    have hj := (Array.getElem?_eq_some_iff.1 ho).1
    have hd := (Cpre (Nat.le_refl _)).2 j hj
    rw [hNs] at hd
    obtain ⟨g, g1, g2⟩ := hg j _ hd k hw
    refine ⟨g, g1, ?_, g2⟩
    have h2 := (hF j o ho).1
    rw [← hgs, List.getElem?_map, g1] at h2
    simpa using h2
  have n0 : (X 0).n = s.n := by rw [h0]
  have hs0 : s.h = (X 0).h ∧ s.n = (X 0).n ∧ s.forb = s.forb := by rw [h0]; exact ⟨rfl, rfl, rfl⟩
  have hcut : ∀ j, j ≤ ops.size → Ext φ (cut φ (X j).n) := fun j hj k p hp => by
    have : k < s.n := by
      rcases Nat.lt_or_ge k s.n with h | h
      · exact h
      · rw [hr.fresh k h] at hp; cases hp
    exact cut_of (Nat.lt_of_lt_of_le this (by rw [← n0]; exact C.nle (by omega) hj)) hp
  refine region_of fun md => ?_
  refine wpAny_of (I := fun L a' w' => ∃ φ', Inv nt ops s.forb X (fun j => (F j).1) (fun j => (F j).2.1) φ s { w with drawn := w.drawn + 1 } L φ' a' w') ?_ ?_ (hord md) ops.size _ a _ (by simp) (unl_start _) ?_
  · -- a step
    rintro L a1 w1 i ⟨φ1, I⟩ hi hn hready
    have ho := Array.getElem?_eq_getElem (xs := ops) (i := i) hi
    have hb := C.before I.closed hi hready
    have st := C.st i _ ho
    have hrel := I.rel C hi hb hn
    have hr0 : Rel φ s { w with drawn := w.drawn + 1 } := ⟨hr.blk, hr.inj, hr.fresh, hr.top⟩
    have hK1 : Kept K (cut φ1 (X i).n) w1 := (Kept.far (s := s) (w := { w with drawn := w.drawn + 1 }) (w' := w1) (show Kept K φ { w with drawn := w.drawn + 1 } from ⟨hK.row, hK.free⟩) I.ext I.keep I.new).sub (cut_ext _ _)
    unfold wpOp
    rw [ho]
    simp only
    have htmp : ∀ t, t ∈ ops[i].looksAt ops → ∀ v, (X i).T t = some v → ∃ u, a1.tmps[t]? = some u ∧ VA (cut φ1 (X i).n) v u := fun t ht v hv =>
      I.tmp t i v (by omega) (C.settledT ho I.closed hb hn ht) hv
    have hguard : ∀ j w' g t, ops[i].guard = some (j, w') → ops[j]? = some g → g.dst = some t → ∀ v, (X i).T t = some v → ∃ u, a1.tmps[t]? = some u ∧ VA (cut φ1 (X i).n) v u := by
      intro j w' g t h1 h2 h3 v hv
      refine htmp t ?_ v hv
      unfold Oper.looksAt
      rw [List.mem_append]
      refine .inr ?_
      rw [h1]
      simp [h2, h3]
    rcases st.run with ⟨hw, v, hop, hp⟩ | ⟨hw, hs, hp⟩ | ⟨hw, hs, l, hle, hlm, hp⟩
    · rw [want_ok hguard hw]
      simp only [if_true]
      refine .inl ?_
      -- the temporaries that it looks at
      have hcon : opE ty held call ops[i].op (fun t => if t ∈ ops[i].looksAt ops then (X i).T t else none) (Can.si X (fun j => (F j).1) s.forb gs i) = some (v, (F i).2.2) := by
        rw [← hop]
        refine op_congr fun x hx => ?_
        cases x with
        | tmp t =>
          show (if t ∈ ops[i].looksAt ops then (X i).T t else none) = (X i).T t
          rw [if_pos]
          unfold Oper.looksAt
          rw [List.mem_append]
          exact .inl (List.mem_filterMap.2 ⟨.tmp t, by simpa using hx, rfl⟩)
        | _ => rfl
      have htr : TR (cut φ1 (X i).n) (fun t => if t ∈ ops[i].looksAt ops then (X i).T t else none) a1.eval := by
        refine AR.tr (nt := nt) ⟨I.asize, I.defers, fun t v' hv => ?_⟩
        split at hv
        · rename_i hm; exact htmp t hm v' hv
        · cases hv
      exact op_wp E hc hrel hK1 htr hcon fun φ' w' u hout hva => I.step C hs0 hr0 ho hb hn hout hva hp
    · rw [want_ok hguard hw]
      simp only [Bool.false_eq_true, if_false]
      have hs' : (F i).2.2 = Can.si X (fun j => (F j).1) s.forb gs i := hs
      have hout : Out (cut φ1 (X i).n) (Can.si X (fun j => (F j).1) s.forb gs i) w1 (cut φ1 (X i).n) (F i).2.2 w1 := by rw [hs']; exact Out.refl hrel
      exact I.step C hs0 hr0 ho hb hn hout (undef_va _) hp
    · rw [want_ok hguard hw]
      simp only [if_true]
      refine .inl ?_
      obtain ⟨ad, e1, e2, e3, e4, e5, e6⟩ := looseE_some hle
      have hs' : (F i).2.2 = Can.si X (fun j => (F j).1) s.forb gs i := hs
      have hout : Out (cut φ1 (X i).n) (Can.si X (fun j => (F j).1) s.forb gs i) w1 (cut φ1 (X i).n) (F i).2.2 w1 := by rw [hs']; exact Out.refl hrel
      have hx : VC (cut φ1 (X i).n) (.ptr l.b l.o) (a1.eval ad) := by
        have hev := evc_some e2
        cases ad with
        | tmp t =>
          obtain ⟨u, k1, k2⟩ := htmp t (by
            unfold Oper.looksAt
            rw [List.mem_append]
            exact .inl (List.mem_filterMap.2 ⟨.tmp t, by rw [e1]; simp [Op.operands], rfl⟩)) _ hev
          have : a1.eval (.tmp t) = u := by simp [Act.eval, k1]
          rw [this]; exact k2
        | const c => exact absA_ok hev
        | func f => cases hev
        | global g => cases hev
      obtain ⟨u, k1, k2⟩ := I.loose E C hi hb hn (C.lds_le (a := i + 1) (by omega) (Nat.le_refl _) hlm) e5 e6 e3 e4 hx
      have hgo : Goes P (cut φ1 (X i).n) (Can.si X (fun j => (F j).1) s.forb gs i) w1 (execOp a1.eval ops[i]) (.v l.v) (F i).2.2 := by
        refine ⟨_, _, u, hout, k1, .inl ?_⟩
        generalize ops[i] = oo at e1
        obtain ⟨dst, op, type, pos, after, guard⟩ := oo
        simp only at e1
        subst e1
        simp only [execOp, Sem.run_bind, k2, Result.andThen_ok, Sem.run_pure]
      exact Goes.wp hgo fun φ' w' u hout hva => I.step C hs0 hr0 ho hb hn hout hva hp
  · -- the end
    rintro L a1 w1 ⟨φ1, I⟩ hall
    have hset : ∀ k, Settled ops X (fun j => (F j).2.1) L k ops.size := fun k i hi _ => ⟨fun _ => hi, fun _ => hall i hi⟩
    have hsetT : ∀ t, SettledT ops L t ops.size := fun t i o ho _ => ⟨fun _ => (Array.getElem?_eq_some_iff.1 ho).1, fun _ => hall i (Array.getElem?_eq_some_iff.1 ho).1⟩
    cases hf
    have hyh : y.h = (X ops.size).h := by rw [hNs]
    have hyn : y.n = (X ops.size).n := by rw [hNs]
    have hyT : y.T = (X ops.size).T := by rw [hNs]
    refine hk φ1 a1 w1 ⟨hup, I.ext, ⟨fun k B hk' => ?_, fun k k' B B' p p' h1 h2 h3 h4 h5 => ?_, fun k hk' => ?_, ?_⟩, I.os, I.tape, I.output, I.size, I.keep, I.new, I.old⟩ ⟨I.asize, I.defers, fun t v hv => ?_⟩
    · rw [St.get_some] at hk'
      obtain ⟨p, c, g1, g2, g3⟩ := I.blk k ops.size B (Nat.le_refl _) (hset k) (by rw [← hyh]; exact hk'.2) hk'.1
      exact ⟨p, c, g1, g2, g3.mono (cut_ext _ _)⟩
    · rw [St.get_some] at h1 h2
      exact I.inj k ops.size B k' ops.size B' p p' (Nat.le_refl _) (Nat.le_refl _) (hset k) (hset k') (by rw [← hyh]; exact h1.2) (by rw [← hyh]; exact h2.2) h1.1 h2.1 h3 h4 h5
    · exact I.fresh k (by rw [← hyn]; exact hk')
    · exact hup.high hr.top
    · obtain ⟨u, g1, g2⟩ := I.tmp t ops.size v (Nat.le_refl _) (hsetT t) (by rw [← hyT]; exact hv)
      exact ⟨u, g1, VA.mono (cut_ext _ _) g2⟩
  · -- the beginning
    have hno : ∀ i, ¬ ((Array.replicate ops.size false).getD i false = true) := fun i => by
      by_cases hi : i < ops.size <;> simp [hi]
    refine ⟨φ, ⟨fun i hi hL => absurd hL (hno i), Ext.refl φ, ha.size, ha.defers, fun t j v hj hs hv => ?_, fun k j B hj hs hkB hf0 => ?_, fun k j B k' j' B' p p' hj hj' hs hs' hkB hkB' hf0 hf0' h1 h2 h3 => ?_, fun k hk' => ?_, fun i hi _ k h1 h2 => ?_,
      rfl, rfl, rfl, Nat.le_refl _, fun _ _ _ => rfl, fun k p h1 h2 => (by rw [h1] at h2; cases h2), fun _ _ => rfl⟩⟩
    · have hcon : (X j).T t = (X 0).T t := C.constT (by omega) hj fun i o h1 h2 ho hd => (hno i) ((hs i o ho hd).2 h2)
      rw [hcon, h0] at hv
      obtain ⟨u, g1, g2⟩ := ha.tmp t v hv
      exact ⟨u, g1, VA.mono (hcut j hj) g2⟩
    · have hcon : (X j).h k = (X 0).h k := C.const (by omega) hj fun i h1 h2 ht => (hno i) ((hs i (by omega) ht).2 h2)
      rw [hcon, h0] at hkB
      obtain ⟨p, c, g1, g2, g3⟩ := hr.blk k B (by rw [St.get_some]; exact ⟨hf0, hkB⟩)
      exact ⟨p, c, g1, g2, g3.mono (hcut j hj)⟩
    · have hcon : (X j).h k = (X 0).h k := C.const (by omega) hj fun i h1 h2 ht => (hno i) ((hs i (by omega) ht).2 h2)
      have hcon' : (X j').h k' = (X 0).h k' := C.const (by omega) hj' fun i h1 h2 ht => (hno i) ((hs' i (by omega) ht).2 h2)
      rw [hcon, h0] at hkB
      rw [hcon', h0] at hkB'
      exact hr.inj k k' B B' p p' (by rw [St.get_some]; exact ⟨hf0, hkB⟩) (by rw [St.get_some]; exact ⟨hf0', hkB'⟩) h1 h2 h3
    · have : (X 0).n ≤ (X ops.size).n := C.nle (by omega) (Nat.le_refl _)
      exact hr.fresh k (by omega)
    · have : (X 0).n ≤ (X i).n := C.nle (by omega) (by omega)
      exact hr.fresh k (by omega)

theorem reg_sound {K : Nat → Option Obj} (E : Env P ty held) (hc : CallOk P K call) (hcu : CallUpd call) : RegSound P K ty held call nt := by
  intro id ops T T' s s' φ a w Q h hr hK ha hk
  simp only [regE, chk_some, Option.bind_eq_some_iff] at h
  obtain ⟨hok, x, h1, h2⟩ := h
  split at h2
  · rename_i hg
    rw [Bool.and_eq_true] at hg
    exact draw_sound E hc hcu hok (guess0_fst _) h1 (of_decide_eq_true hg.1) hg.2 h2 hr hK ha hk
  · simp only [chk_some, Option.bind_eq_some_iff] at h2
    obtain ⟨y, h3, hg, h4⟩ := h2
    rw [Bool.and_eq_true] at hg
    exact draw_sound E hc hcu hok (guess1_fst _ _) h3 (of_decide_eq_true hg.1) hg.2 h4 hr hK ha hk

/-- THE LAW: where the evaluator has an answer, the call of the model has it. -/
theorem call_sound {K : Nat → Option Obj} {hk : CallF} (hhk : CallOk P K hk) (hup : CallUpd hk) {fn : Nat → Option Func} (hfn : ∀ f F, fn f = some F → P.funcs[f]? = some F) (steps d : Nat) (E : Env P ty held) : CallOk P K (callE ty held hk fn steps d) := by
  induction d with
  | zero => intro f l s v s' h; simp [callE] at h
  | succ d ih =>
    -- one level at a time: the regions of this level want the calls of the one below
    intro f l s v s' h φ w args hr hK hv
    have := call_ok_step E hfn steps hhk ih (fun nt => reg_sound E ih (call_upd hup d))
    exact this f l s v s' h φ w args hr hK hv
end
end
end Go.Proofs.YtjbnkokcbhfdgabGreatDoor.Ev
