/- A call that was run once, from the same number of blocks, over blocks that stand as they stood then: its new blocks are laid. -/
import Derived.Test.YtjbnkokcbhfdgabGreatDoorXvM
namespace Go.Proofs.YtjbnkokcbhfdgabGreatDoor.Ev
open Go Go.RowKit
set_option linter.unusedVariables false
set_option linter.unusedSimpArgs false
set_option linter.unusedSectionVars false
set_option linter.unnecessarySimpa false
open Classical

theorem chk_and' {α : Type} (a b : Bool) (x : Option α) : chk (a && b) x = chk a (chk b x) := by cases a <;> rfl
structure RE where
  f : Nat
  l : List AV
  n : Nat
  v : AV
  R : Bls
  m : Nat
/-- the new blocks' numbers -/
def rOk (n m : Nat) (fb : Nat → Bool) : Bls → Bool
  | [] => true
  | p :: l => (Nat.ble n p.1 && (Nat.blt p.1 m && !(fb p.1))) && rOk n m fb l
theorem rOk_mem {n m : Nat} {fb : Nat → Bool} : ∀ {l : Bls}, rOk n m fb l = true → ∀ p ∈ l, n ≤ p.1 ∧ p.1 < m ∧ fb p.1 = false
  | [], _, p, h => by cases h
  | q :: l, hs, p, h => by
    simp only [rOk, Bool.and_eq_true, Nat.ble_eq, Nat.blt_eq, Bool.not_eq_true'] at hs
    rcases List.mem_cons.1 h with rfl | h
    · exact ⟨hs.1.1, hs.1.2.1, hs.1.2.2⟩
    · exact rOk_mem hs.2 p h
def layF : Bls → (Nat → Option BK) → Nat → Option BK
  | [], h => h
  | p :: l, h => layF l (upd h p.1 (some p.2))
theorem layF_mem : ∀ {l : Bls} {h : Nat → Option BK} {k : Nat} {B : BK}, layF l h k = some B → (k, B) ∈ l ∨ h k = some B
  | [], h, k, B, e => .inr e
  | p :: l, h, k, B, e => by
    rcases layF_mem (l := l) e with e | e
    · exact .inl (List.mem_cons_of_mem _ e)
    · unfold upd at e
      split at e
      · rename_i e1
        obtain ⟨a, b⟩ := p
        have e1 : k = a := e1
        injection e with e
        have e : b = B := e
        rw [e1, ← e]
        exact .inl (List.mem_cons_self ..)
      · exact .inr e
theorem layF_out : ∀ {l : Bls} {h : Nat → Option BK} {k : Nat}, (∀ p ∈ l, p.1 ≠ k) → layF l h k = h k
  | [], h, k, _ => rfl
  | p :: l, h, k, e => by
    have := layF_out (l := l) (h := upd h p.1 (some p.2)) (k := k) fun q hq => e q (List.mem_cons_of_mem _ hq)
    show layF l (upd h p.1 (some p.2)) k = h k
    rw [this]
    unfold upd
    rw [if_neg (fun x => e p (List.mem_cons_self ..) x.symm)]
theorem layT_get : ∀ (l : Bls) (t : Tr BK), (layT l t).get = layF l t.get
  | [], t => rfl
  | p :: l, t => by
    have h : layT (p :: l) t = ((sT BK (Tr BK) p.1).f (some p.2) t (layT l)) := rfl
    rw [h, set_eqR, layT_get l]
    show layF l _ = layF l _
    congr 1
    funext k
    rw [put_get']
def addS (e : RE) (s : St) : St := { s with h := layF e.R s.h, n := e.m }
noncomputable def replF (bl : Bls) (e : RE) : CallF := fun f l s => chk (Nat.beq e.f f && (Nat.beq s.n e.n && (sameAs l e.l && (Nat.ble e.n e.m && (rOk e.n e.m s.forb e.R && allSame s bl))))) (some (e.v, addS e s))
noncomputable def replK (bl : Bls) (e : RE) : CallK := fun f l s =>
  ib (Nat.beq e.f f) (ib (Nat.beq s.n e.n) (ib (sameAs l e.l) (ib (Nat.ble e.n e.m) (ib (rOk e.n e.m (isForb s.forb) e.R) (ib (allSameK s bl) (StK.rec (motive := fun _ => Option (AV × StK)) (fun h _ forb mark log => layC e.R h fun h => some (e.v, ⟨h, e.m, forb, mark, log⟩)) s) none) none) none) none) none) none
theorem repl_eq (bl : Bls) (e : RE) : CallEq (replK bl e) (replF bl e) := by
  intro f l s
  obtain ⟨h, n, forb, mark, log⟩ := s
  simp only [replK, replF, ib_eq, map_chk, allSameK_eq, layC_eq, chk_and']
  have h1 : (some (e.v, (⟨layT e.R h, e.m, forb, mark, log⟩ : StK)) : Option (AV × StK)).map absP = some (e.v, addS e (absS ⟨h, n, forb, mark, log⟩)) := by
    show some (e.v, absS ⟨layT e.R h, e.m, forb, mark, log⟩) = _
    congr 2
    unfold addS absS
    rw [layT_get]
  rw [h1]
  rfl
theorem repl_upd (bl : Bls) (e : RE) : CallUpd (replF bl e) := by
  intro f l s v s' h ht
  simp only [replF, chk_some, Bool.and_eq_true] at h
  obtain ⟨⟨_, h1, _, h2, h3, _⟩, h4⟩ := h
  cases h4
  have h1 := Nat.eq_of_beq_eq_true h1
  have h2 := Nat.le_of_ble_eq_true h2
  have hm := rOk_mem h3
  refine ⟨by show s.n ≤ e.m; omega, rfl, rfl, fun k hk => ?_, fun k hk _ _ => ?_, fun hh k hk => ?_, fun k hk => hk, fun k hk => .inl ?_, fun k hk => .inl hk⟩
  · exact layF_out fun p hp x => by have := (hm p hp).2.2; rw [x, hk] at this; cases this
  · exact layF_out fun p hp x => by have := (hm p hp).1; omega
  · have hk : e.m ≤ k := hk
    show layF e.R s.h k = none
    rw [layF_out fun p hp x => by have := (hm p hp).2.1; omega]
    exact hh k (by omega)
  · exact layF_out fun p hp x => by have := (hm p hp).1; omega
def ltAll (n : Nat) : Bls → Bool
  | [] => true
  | p :: l => Nat.blt p.1 n && ltAll n l
theorem ltAll_mem {n : Nat} : ∀ {l : Bls}, ltAll n l = true → ∀ p ∈ l, p.1 < n
  | [], _, p, h => by cases h
  | q :: l, hs, p, h => by
    simp only [ltAll, Bool.and_eq_true, Nat.blt_eq] at hs
    rcases List.mem_cons.1 h with rfl | h
    · exact hs.1
    · exact ltAll_mem hs.2 p h
def ReplOk (c : CallF) (bl : Bls) (e : RE) : Prop := ltAll e.n bl = true ∧ ∃ s', c e.f e.l (absS (smS bl e.n)) = some (e.v, s') ∧ (∀ k, k < e.n → s'.w k = false) ∧ s'.n = e.m ∧ ∀ p ∈ e.R, s'.get p.1 = some p.2
theorem repl_ok {P : Program} {K : Nat → Option Obj} {c : CallF} {bl : Bls} {e : RE} (hc : CallOk P K c) (ht : ReplOk c bl e) : CallOk P K (replF bl e) := by
  intro f l s v s' h φ w args hr hK hv
  simp only [replF, chk_some, Bool.and_eq_true] at h
  obtain ⟨⟨c1, c2, c3, c4, c5, c6⟩, c7⟩ := h
  cases c7
  have c1 := Nat.eq_of_beq_eq_true c1
  have c2 := Nat.eq_of_beq_eq_true c2
  have c3' := c3
  have c3 := sameAs_eq c3
  have c4b := c4
  have c4 := Nat.le_of_ble_eq_true c4
  have hm := rOk_mem c5
  subst c1; subst c3
  obtain ⟨hbl, s1, t1, t2, t3, t4⟩ := ht
  have hin : ∀ {k B}, (absS (smS bl e.n)).get k = some B → (k, B) ∈ bl := by
    intro k B hB
    have := (St.get_some.1 hB).2
    have this : (layT bl .nil).get k = some B := this
    rcases layT_mem this with h | h
    · exact h
    · rw [get_nil] at h; cases h
  have hsg : ∀ {k B}, (absS (smS bl e.n)).get k = some B → s.get k = some B := fun hB => allSame_mem c6 _ (hin hB)
  have hrel : Rel φ (absS (smS bl e.n)) w := by
    refine ⟨fun k B hB => hr.blk k B (hsg hB), fun k k' B B' p p' g1 g2 g3 g4 g5 => hr.inj k k' B B' p p' (hsg g1) (hsg g2) g3 g4 g5, fun k hk => hr.fresh k (by have hk : e.n ≤ k := hk; omega), fun k hk => ?_⟩
    have hk : e.n ≤ k := hk
    cases x : (absS (smS bl e.n)).h k with
    | none => rfl
    | some B =>
      have x : (layT bl .nil).get k = some B := x
      rcases layT_mem x with h | h
      · have := ltAll_mem hbl _ h
        simp only at this
        omega
      · rw [get_nil] at h; cases h
  obtain ⟨g1, g2⟩ := hc e.f e.l _ _ _ t1 φ w args hrel hK hv
  refine ⟨g1, g2.mono ?_⟩
  rintro x w' ⟨φ2, u, ho, hva, rfl⟩
  have seen_of : ∀ {r}, Seen φ (absS (smS bl e.n)) r → Seen φ s r := by
    rintro r ⟨k, B, p, x1, x2, x3⟩
    exact ⟨k, B, p, hsg x1, x2, x3⟩
  have hsn : (absS (smS bl e.n)).n = e.n := rfl
  -- the old blocks of the list stand
  have hkept : ∀ k, k < e.n → s1.get k = (absS (smS bl e.n)).get k := by
    intro k hk
    have hf : s1.forb = (absS (smS bl e.n)).forb := ho.upd.forb
    have hh := ho.upd.kept k hk hk (t2 k hk)
    unfold St.get
    rw [hf, hh]
  have hlt : ∀ {k B}, s.h k = some B → k < s.n := by
    intro k B hB
    rcases Nat.lt_or_ge k s.n with h | h
    · exact h
    · rw [hr.top k h] at hB; cases hB
  -- what the new state holds
  have hcl : ∀ {k B}, (addS e s).get k = some B → s1.get k = some B ∨ (s.get k = some B ∧ k < s.n ∧ (absS (smS bl e.n)).get k = none) := by
    intro k B hB
    obtain ⟨y1, y2⟩ := St.get_some.1 hB
    have y2 : layF e.R s.h k = some B := y2
    rcases layF_mem y2 with h | h
    · exact .inl (t4 _ h)
    · have hs : s.get k = some B := St.get_some.2 ⟨y1, h⟩
      have hk := hlt h
      cases x : (absS (smS bl e.n)).get k with
      | none => exact .inr ⟨hs, hk, rfl⟩
      | some B' =>
        have := hsg x
        rw [hs] at this; cases this
        exact .inl (by rw [hkept k (by omega)]; exact x)
  have hmix : ∀ {k k' B B' p p'}, s.get k = some B → k < s.n → (absS (smS bl e.n)).get k = none → s1.get k' = some B' → φ2 k = some p → φ2 k' = some p' → p.1 = p'.1 → False := by
    intro k k' B B' p p' a1 a2 a3 b1 q1 q2 q3
    have q1' : φ k = some p := by rw [← ho.old k (by rw [hsn]; omega)]; exact q1
    obtain ⟨pp, oo, z1, z2, _⟩ := hr.blk k B a1
    rw [q1'] at z1; cases z1
    have hsz := (Array.getElem?_eq_some_iff.1 z2).1
    have hs : Seen φ (absS (smS bl e.n)) p'.1 → False := by
      rintro ⟨k0, B0, p0, x1, x2, x3⟩
      have := hr.inj k0 k B0 B p0 p (hsg x1) a1 x2 q1' (by rw [x3, q3])
      subst this
      rw [a3] at x1; cases x1
    cases x : φ k' with
    | none =>
      rcases ho.new k' p' x q2 with h | h
      · omega
      · exact hs h
    | some p2 =>
      have := ho.ext _ _ x
      rw [q2] at this; cases this
      have hk' : k' < e.n := by
        rcases Nat.lt_or_ge k' s.n with h | h
        · omega
        · rw [hr.fresh k' h] at x; cases x
      rw [hkept k' hk'] at b1
      exact hs ⟨k', B', p', b1, x, rfl⟩
  refine ⟨φ2, u, ⟨?_, ho.ext, ⟨?_, ?_, ?_, ?_⟩, ho.os, ho.tape, ho.output, ho.size, fun r h1 h2 => ho.keep r h1 (fun hs => h2 (seen_of hs)), fun k p h1 h2 => (ho.new k p h1 h2).imp id seen_of, fun k hk => ho.old k (by rw [hsn]; omega)⟩, hva, rfl⟩
  · exact repl_upd bl e e.f e.l s e.v (addS e s) (by simp only [replF, chk_some, Bool.and_eq_true]; exact ⟨⟨Nat.beq_refl _, by rw [c2]; exact Nat.beq_refl _, c3', c4b, c5, c6⟩, trivial⟩) hr.top
  · intro k B hB
    rcases hcl hB with h | ⟨h, hk, hn⟩
    · exact ho.rel.blk k B h
    · obtain ⟨p, o, x1, x2, x3⟩ := hr.blk k B h
      refine ⟨p, o, ho.ext _ _ x1, ?_, HO.mono ho.ext x3⟩
      rw [ho.keep p.1 (Array.getElem?_eq_some_iff.1 x2).1 fun hs' => ?_]
      · exact x2
      · obtain ⟨k0, B0, p0, y1, y2, y3⟩ := hs'
        have := hr.inj k0 k B0 B p0 p (hsg y1) h y2 x1 y3
        subst this
        rw [hn] at y1; cases y1
  · intro k k' B B' p p' a b q1 q2 q3
    rcases hcl a with a | ⟨a1, a2, a3⟩
    · rcases hcl b with b | ⟨b1, b2, b3⟩
      · exact ho.rel.inj k k' B B' p p' a b q1 q2 q3
      · exact (hmix b1 b2 b3 a q2 q1 q3.symm).elim
    · rcases hcl b with b | ⟨b1, b2, b3⟩
      · exact (hmix a1 a2 a3 b q1 q2 q3).elim
      · rw [ho.old k (by rw [hsn]; omega)] at q1
        rw [ho.old k' (by rw [hsn]; omega)] at q2
        exact hr.inj k k' B B' p p' a1 b1 q1 q2 q3
  · intro k hk
    have hk : e.m ≤ k := hk
    exact ho.rel.fresh k (by omega)
  · intro k hk
    have hk : e.m ≤ k := hk
    show layF e.R s.h k = none
    rw [layF_out fun p hp x => by have := (hm p hp).2.1; omega]
    exact hr.top k (by omega)
noncomputable def replT (run : Nat → List AV → StK → Option (AV × StK)) (bl : Bls) (e : RE) : Bool :=
  Bool.rec (motive := fun _ => Bool) false (layC bl .nil fun h => match run e.f e.l ⟨h, e.n, [], e.n, []⟩ with
    | some (v, s') => sameA v e.v && (isNilL s'.log && (Nat.beq s'.n e.m && allSameK s' e.R))
    | none => false) (ltAll e.n bl)
theorem repl_of {run : Nat → List AV → StK → Option (AV × StK)} {c : CallF} (hr : ∀ f l s v s', run f l s = some (v, s') → c f l (absS s) = some (v, absS s')) {bl : Bls} {e : RE} (h : replT run bl e = true) : ReplOk c bl e := by
  unfold replT at h
  cases hb : ltAll e.n bl with
  | false => rw [hb] at h; cases h
  | true =>
    rw [hb] at h
    rw [layC_eq] at h
    refine ⟨hb, ?_⟩
    have h : (match run e.f e.l (smS bl e.n) with
      | some (v, s') => sameA v e.v && (isNilL s'.log && (Nat.beq s'.n e.m && allSameK s' e.R))
      | none => false) = true := h
    split at h
    · rename_i v s' hv
      simp only [Bool.and_eq_true] at h
      obtain ⟨h1, h2, h3, h4⟩ := h
      have := sameA_eq h1
      subst this
      refine ⟨absS s', hr _ _ _ _ _ hv, fun k hk => ?_, Nat.eq_of_beq_eq_true h3, allSame_mem (by rw [← allSameK_eq]; exact h4)⟩
      show memN s'.log k = false
      cases e1 : s'.log with
      | nil => rfl
      | cons a l => rw [e1] at h2; cases h2
    · cases h
end Go.Proofs.YtjbnkokcbhfdgabGreatDoor.Ev
