/- Calls that were run once, over blocks that stand as they stood then: answered. -/
import Derived.Test.YtjbnkokcbhfdgabGreatDoorXvI
import Derived.Test.YtjbnkokcbhfdgabGreatDoorXvW
namespace Go.Proofs.YtjbnkokcbhfdgabGreatDoor.Ev
open Go Go.RowKit
set_option linter.unusedVariables false
set_option linter.unusedSimpArgs false
set_option linter.unusedSectionVars false
set_option linter.unnecessarySimpa false
open Classical

/-- values that name no block -/
def pureC' : CV → Bool
  | .bool _ => true
  | .int _ _ => true
  | .nil => true
  | .snil => true
  | .nilf => true
  | .nili => true
  | .nmap => true
  | _ => false
def pureL : List CV → Bool
  | [] => true
  | c :: l => pureC' c && pureL l
def pureT : TV → Bool
  | .c v => pureC' v
  | .agg l => pureL l
def pureTs : List TV → Bool
  | [] => true
  | t :: l => pureT t && pureTs l
def pureA : AV → Bool
  | .v t => pureT t
  | .tup l => pureTs l
theorem pureC_ok {φ ψ : Mp} {c : CV} {u : Value} (h : pureC' c = true) (k : VC φ c u) : VC ψ c u := by
  cases c <;> first | exact k | (cases h; done)
theorem pureL_ok {φ ψ : Mp} : ∀ {l : List CV} {vs : List Value}, pureL l = true → VL φ l vs → VL ψ l vs
  | [], [], _, _ => trivial
  | c :: l, v :: vs, h, ⟨k, k'⟩ => by
    simp only [pureL, Bool.and_eq_true] at h
    exact ⟨pureC_ok h.1 k, pureL_ok h.2 k'⟩
theorem pureT_ok {φ ψ : Mp} {t : TV} {u : Value} (h : pureT t = true) (k : VT φ t u) : VT ψ t u := by
  cases t with
  | c v => exact pureC_ok h k
  | agg l => obtain ⟨vs, h1, h2⟩ := k; exact ⟨vs, pureL_ok h h1, h2⟩
theorem pureTs_ok {φ ψ : Mp} : ∀ {l : List TV} {vs : List Value}, pureTs l = true → VTs φ l vs → VTs ψ l vs
  | [], [], _, _ => trivial
  | c :: l, v :: vs, h, ⟨k, k'⟩ => by
    simp only [pureTs, Bool.and_eq_true] at h
    exact ⟨pureT_ok h.1 k, pureTs_ok h.2 k'⟩
theorem pureA_ok {φ ψ : Mp} {t : AV} {u : Value} (h : pureA t = true) (k : VA φ t u) : VA ψ t u := by
  cases t with
  | v v => exact pureT_ok h k
  | tup l => obtain ⟨vs, h1, h2⟩ := k; exact ⟨vs, pureTs_ok h h1, h2⟩
def sameTs : List TV → List TV → Bool
  | [], [] => true
  | a :: l, b :: m => sameT a b && sameTs l m
  | _, _ => false
def sameA : AV → AV → Bool
  | .v a, .v b => sameT a b
  | .tup l, .tup m => sameTs l m
  | _, _ => false
def sameAs : List AV → List AV → Bool
  | [], [] => true
  | a :: l, b :: m => sameA a b && sameAs l m
  | _, _ => false
theorem sameTs_eq : ∀ {a b : List TV}, sameTs a b = true → a = b
  | [], [], _ => rfl
  | [], _ :: _, h => by cases h
  | _ :: _, [], h => by cases h
  | x :: l, y :: m, h => by
    simp only [sameTs, Bool.and_eq_true] at h
    rw [sameT_eq h.1, sameTs_eq h.2]
theorem sameA_eq {a b : AV} (h : sameA a b = true) : a = b := by
  unfold sameA at h
  split at h
  · rw [sameT_eq h]
  · rw [sameTs_eq h]
  · cases h
theorem sameAs_eq : ∀ {a b : List AV}, sameAs a b = true → a = b
  | [], [], _ => rfl
  | [], _ :: _, h => by cases h
  | _ :: _, [], h => by cases h
  | x :: l, y :: m, h => by
    simp only [sameAs, Bool.and_eq_true] at h
    rw [sameA_eq h.1, sameAs_eq h.2]

structure ME where
  f : Nat
  k : Nat
  l : List AV
  v : AV
/-- the last argument's number -/
noncomputable def intC : CV → Nat := CV.rec (fun _ => 0) (fun _ n => Int.rec (fun m => m) (fun _ => 0) n) (fun _ => 0) (fun _ _ => 0) 0 (fun _ _ _ _ => 0) 0 (fun _ _ => 0) 0 0 (fun _ _ _ => 0) (fun _ => 0) 0 (fun _ _ _ => 0) (fun _ _ _ => 0)
noncomputable def keyOf (l : List AV) : Nat := List.rec (motive := fun _ => Nat) 0 (fun a t ih => List.rec (motive := fun _ => Nat) (AV.rec (fun t => TV.rec intC (fun _ => 0) t) (fun _ => 0) a) (fun _ _ _ => ih) t) l
noncomputable def lookM (f : Nat) (l : List AV) (k : Nat) (t : List ME) : Option AV :=
  List.rec (motive := fun _ => Option AV) none (fun e _ ih => ME.rec (motive := fun _ => Option AV) (fun f' k' l' v => Bool.rec (motive := fun _ => Option AV) ih (Bool.rec (motive := fun _ => Option AV) none (Bool.rec (motive := fun _ => Option AV) none (some v) (sameAs l l')) (Nat.beq f f')) (Nat.beq k k')) e) t
theorem lookM_some {f : Nat} {l : List AV} {k : Nat} {v : AV} : ∀ {t : List ME}, lookM f l k t = some v → ∃ k', (⟨f, k', l, v⟩ : ME) ∈ t
  | [], h => by cases h
  | ⟨f', k', l', v'⟩ :: t, h => by
    have h : (Bool.rec (motive := fun _ => Option AV) (lookM f l k t) (Bool.rec (motive := fun _ => Option AV) none (Bool.rec (motive := fun _ => Option AV) none (some v') (sameAs l l')) (Nat.beq f f')) (Nat.beq k k') : Option AV) = some v := h
    cases e : Nat.beq k k' with
    | false =>
      rw [e] at h
      obtain ⟨k2, h2⟩ := lookM_some (t := t) h
      exact ⟨k2, List.mem_cons_of_mem _ h2⟩
    | true =>
      rw [e] at h
      cases e1 : Nat.beq f f' with
      | false => rw [e1] at h; cases h
      | true =>
        rw [e1] at h
        cases e2 : sameAs l l' with
        | false => rw [e2] at h; cases h
        | true =>
          rw [e2] at h
          have h : some v' = some v := h
          cases h
          rw [Nat.eq_of_beq_eq_true e1, sameAs_eq e2]
          exact ⟨k', List.mem_cons_self ..⟩
abbrev Bls := List (Nat × BK)
def allSame (s : St) : Bls → Bool
  | [] => true
  | p :: l => sameOB (s.get p.1) (some p.2) && allSame s l
theorem allSame_mem {s : St} : ∀ {bl : Bls}, allSame s bl = true → ∀ p ∈ bl, s.get p.1 = some p.2
  | [], _, p, h => by cases h
  | q :: l, hs, p, h => by
    simp only [allSame, Bool.and_eq_true] at hs
    rcases List.mem_cons.1 h with rfl | h
    · exact sameOB_eq hs.1
    · exact allSame_mem hs.2 p h
noncomputable def memoF (fs : List Nat) (bl : Bls) (t : List ME) : CallF := fun f l s => chk (memN fs f) ((lookM f l (keyOf l) t).bind fun v => chk (allSame s bl) (some (v, s)))
noncomputable def allSameK (s : StK) (bl : Bls) : Bool := List.rec (motive := fun _ => Bool) true (fun p _ ih => Bool.rec (motive := fun _ => Bool) false ih (sameOB (getK s p.1) (some p.2))) bl
noncomputable def memoK (fs : List Nat) (bl : Bls) (t : List ME) : CallK := fun f l s => ib (memN fs f) (ob (lookM f l (keyOf l) t) fun v => ib (allSameK s bl) (some (v, s)) none) none
theorem allSameK_eq (s : StK) : ∀ bl : Bls, allSameK s bl = allSame (absS s) bl
  | [] => rfl
  | p :: l => by
    show (Bool.rec (motive := fun _ => Bool) false (allSameK s l) (sameOB (getK s p.1) (some p.2)) : Bool) = _
    rw [getK_eq, allSameK_eq s l]
    simp only [allSame]
    cases sameOB ((absS s).get p.1) (some p.2) <;> rfl
theorem memo_eq (fs : List Nat) (bl : Bls) (t : List ME) : CallEq (memoK fs bl t) (memoF fs bl t) := by
  intro f l s
  simp only [memoK, memoF, ib_eq, ob_eq, map_chk, map_bind', allSameK_eq]
  rfl
theorem memo_upd (fs : List Nat) (bl : Bls) (t : List ME) : CallUpd (memoF fs bl t) := by
  intro f l s v s' h ht
  simp only [memoF, chk_some, Option.bind_eq_some_iff] at h
  obtain ⟨_, _, _, _, h⟩ := h
  cases h; exact Upd.refl s
noncomputable def layT (bl : Bls) : Tr BK → Tr BK := List.rec (motive := fun _ => Tr BK → Tr BK) (fun t => t) (fun p _ ih t => (sT BK (Tr BK) p.1).f (some p.2) t ih) bl
theorem layT_mem : ∀ {bl : Bls} {t : Tr BK} {k : Nat} {B : BK}, (layT bl t).get k = some B → (k, B) ∈ bl ∨ t.get k = some B
  | [], t, k, B, h => .inr h
  | p :: bl, t, k, B, h => by
    have h : (((sT BK (Tr BK) p.1).f (some p.2) t (layT bl)) : Tr BK).get k = some B := h
    rw [set_eqR] at h
    rcases layT_mem h with h | h
    · exact .inl (List.mem_cons_of_mem _ h)
    · rw [put_get'] at h
      unfold upd at h
      split at h
      · rename_i e
        obtain ⟨a, b⟩ := p
        have e' : k = a := e
        injection h with h
        have h' : b = B := h
        rw [e', ← h']
        exact .inl (List.mem_cons_self ..)
      · exact .inr h
/-- the state of those blocks alone -/
noncomputable def smS (bl : Bls) (nb : Nat) : StK := ⟨layT bl .nil, nb, [], nb, []⟩
def belowRows (n : Nat) : List Row → Bool
  | [] => true
  | r :: l => (belowT n r.2.1 && belowT n r.2.2) && belowRows n l
def belowX (n : Nat) : Option XK → Bool
  | none => true
  | some (.map rows _) => belowRows n rows
  | some _ => false
theorem RowIs.below {φ : Mp} {n m : Nat} {r : Row} {e : MapEntry} (h : RowIs (cut φ n) r e) (hb : (belowT m r.2.1 && belowT m r.2.2) = true) : RowIs (cut φ m) r e := by
  rw [Bool.and_eq_true] at hb
  exact ⟨h.1, VT.below h.2.1 hb.1, VT.below h.2.2 hb.2⟩
theorem Rows.below {φ : Mp} {n m : Nat} : ∀ {l : List Row} {es : List MapEntry}, Rows (cut φ n) l es → belowRows m l = true → Rows (cut φ m) l es
  | [], [], _, _ => trivial
  | r :: l, e :: es, ⟨h, k⟩, hb => by
    simp only [belowRows] at hb
    rw [Bool.and_eq_true] at hb
    exact ⟨RowIs.below h hb.1, Rows.below k hb.2⟩
/-- a block of cells, or a map -/
theorem HO.below {φ : Mp} {n m : Nat} {B : BK} {p : Loc} {o : Obj} (h : HO (cut φ n) B p o) (h1 : belowX m B.x = true) (h2 : belowL m B.cells = true) : HO (cut φ m) B p o := by
  unfold HO at h ⊢
  split at h
  · obtain ⟨c, g0, pre, l, tl, g1, g2, g3⟩ := h
    exact ⟨c, g0, pre, l, tl, g1, VL.below g2 h2, g3⟩
  · rename_i x hx
    rw [hx] at h1
    cases x with
    | map rows c =>
      obtain ⟨g0, es, g1, g2⟩ := h
      exact ⟨g0, es, g1, Rows.below g2 h1⟩
    | iter a b c d => cases h1
    | bag a b c => cases h1
def blsOk (nb : Nat) : Bls → Bool
  | [] => true
  | p :: l => (Nat.blt p.1 nb && (belowX nb p.2.x && belowL nb p.2.cells)) && blsOk nb l
theorem blsOk_mem {nb : Nat} : ∀ {bl : Bls}, blsOk nb bl = true → ∀ p ∈ bl, p.1 < nb ∧ belowX nb p.2.x = true ∧ belowL nb p.2.cells = true
  | [], _, p, h => by cases h
  | q :: l, hs, p, h => by
    simp only [blsOk, Bool.and_eq_true, Nat.blt_eq] at hs
    rcases List.mem_cons.1 h with rfl | h
    · exact ⟨hs.1.1, hs.1.2.1, hs.1.2.2⟩
    · exact blsOk_mem hs.2 p h
def belowAs (nb : Nat) : List AV → Bool
  | [] => true
  | .v t :: l => belowT nb t && belowAs nb l
  | _ :: _ => false
theorem VAs.below {φ : Mp} {n m : Nat} : ∀ {l : List AV} {vs : List Value}, VAs (cut φ n) l vs → belowAs m l = true → VAs (cut φ m) l vs
  | [], [], _, _ => trivial
  | c :: l, v :: vs, ⟨h, k⟩, hb => by
    cases c with
    | v t =>
      simp only [belowAs, Bool.and_eq_true] at hb
      exact ⟨VT.below h hb.1, VAs.below k hb.2⟩
    | tup l => cases hb
theorem cut_all {φ : Mp} {n : Nat} (h : ∀ k, n ≤ k → φ k = none) : cut φ n = φ := by
  funext k
  cases e : φ k with
  | none =>
    cases e' : cut φ n k with
    | none => rfl
    | some p => rw [(cut_some e').2] at e; cases e
  | some p =>
    rcases Nat.lt_or_ge k n with h1 | h1
    · exact cut_of h1 e
    · rw [h k h1] at e; cases e
/-- what a table must be -/
def TblOk (c : CallF) (bl : Bls) (nb : Nat) (t : List ME) : Prop := blsOk nb bl = true ∧ ∀ e ∈ t, belowAs nb e.l = true ∧ pureA e.v = true ∧ ∃ s', c e.f e.l (absS (smS bl nb)) = some (e.v, s') ∧ ∀ k, k < nb → s'.w k = false
theorem memo_ok {P : Program} {K : Nat → Option Obj} {c : CallF} {fs : List Nat} {bl : Bls} {nb : Nat} {t : List ME} (hc : CallOk P K c) (ht : TblOk c bl nb t) : CallOk P K (memoF fs bl t) := by
  intro f l s v s' h φ w args hr hK hv
  simp only [memoF, chk_some, Option.bind_eq_some_iff] at h
  obtain ⟨_, v', h1, h2, h3⟩ := h
  cases h3
  obtain ⟨kk, hmem⟩ := lookM_some h1
  obtain ⟨hbl, htt⟩ := ht
  obtain ⟨hb1, hb2, s1, hb3, hb4⟩ := htt _ hmem
  simp only at hb1 hb2 hb3
  have hin : ∀ {k B}, (absS (smS bl nb)).get k = some B → (k, B) ∈ bl := by
    intro k B hB
    have := (St.get_some.1 hB).2
    have this : (layT bl .nil).get k = some B := this
    rcases layT_mem this with h | h
    · exact h
    · rw [get_nil] at h; cases h
  have hsg : ∀ {k B}, (absS (smS bl nb)).get k = some B → s.get k = some B := fun hB => allSame_mem h2 _ (hin hB)
  have hcut : cut φ s.n = φ := cut_all hr.fresh
  have hext : Ext (cut φ nb) φ := cut_ext φ nb
  have hrel : Rel (cut φ nb) (absS (smS bl nb)) w := by
    refine ⟨fun k B hB => ?_, fun k k' B B' p p' g1 g2 g3 g4 g5 => hr.inj k k' B B' p p' (hsg g1) (hsg g2) (cut_some g3).2 (cut_some g4).2 g5, fun k hk => ?_, fun k hk => ?_⟩
    · obtain ⟨e1, e2, e3⟩ := blsOk_mem hbl _ (hin hB)
      obtain ⟨p, o, g1, g2, g3⟩ := hr.blk k B (hsg hB)
      refine ⟨p, o, cut_of e1 g1, g2, ?_⟩
      rw [← hcut] at g3
      exact g3.below e2 e3
    · have hk : nb ≤ k := hk
      cases e : cut φ nb k with
      | none => rfl
      | some p => have := (cut_some e).1; omega
    · have hk : nb ≤ k := hk
      cases e : (absS (smS bl nb)).h k with
      | none => rfl
      | some B =>
        have e : (layT bl .nil).get k = some B := e
        rcases layT_mem e with h | h
        · have := (blsOk_mem hbl _ h).1
          simp only at this
          omega
        · rw [get_nil] at h; cases h
  have hvs : VAs (cut φ nb) l args.toList := by
    rw [← hcut] at hv
    exact VAs.below hv hb1
  obtain ⟨g1, g2⟩ := hc f l _ _ _ hb3 (cut φ nb) w args hrel (hK.sub hext) hvs
  refine ⟨g1, g2.mono ?_⟩
  rintro e w' ⟨φ2, u, ho, hva, rfl⟩
  refine ⟨φ, u, ?_, pureA_ok hb2 hva, rfl⟩
  have seen_of : ∀ {r}, Seen (cut φ nb) (absS (smS bl nb)) r → Seen φ s r := by
    rintro r ⟨k, B, p, x1, x2, x3⟩
    exact ⟨k, B, p, hsg x1, (cut_some x2).2, x3⟩
  refine ⟨Upd.refl s, Ext.refl φ, ⟨fun k B hB => ?_, hr.inj, hr.fresh, hr.top⟩, ho.os, ho.tape, ho.output, ho.size, fun r h1 h2 => ho.keep r h1 (fun hs => h2 (seen_of hs)), fun k p h1 h2 => (by rw [h1] at h2; cases h2), fun _ _ => rfl⟩
  obtain ⟨p, o, x1, x2, x3⟩ := hr.blk k B hB
  by_cases hs : ∃ B', (absS (smS bl nb)).get k = some B'
  · obtain ⟨B', hB'⟩ := hs
    have hBB := hsg hB'
    rw [hB] at hBB; cases hBB
    have hkn : k < nb := (blsOk_mem hbl _ (hin hB')).1
    obtain ⟨y1, y2⟩ := St.get_some.1 hB'
    have hkeep := ho.upd.kept k hkn hkn (hb4 k hkn)
    have hB2 : s1.get k = some B := St.get_some.2 ⟨by rw [ho.upd.forb]; exact y1, by rw [hkeep]; exact y2⟩
    obtain ⟨p2, o2, z1, z2, z3⟩ := ho.rel.blk k B hB2
    have hc1 : cut φ nb k = some p := cut_of hkn x1
    rw [ho.ext _ _ hc1] at z1; cases z1
    obtain ⟨p3, o3, w1, w2, w3⟩ := hrel.blk k B hB'
    exact ⟨p, o2, x1, z2, HO.mono hext (HO.back ho.ext w3 z3)⟩
  · refine ⟨p, o, x1, ?_, x3⟩
    rw [ho.keep p.1 (Array.getElem?_eq_some_iff.1 x2).1 fun hs' => ?_]
    · exact x2
    · obtain ⟨k', B', p', y1, y2, y3⟩ := hs'
      have := hr.inj k' k B' B p' p (hsg y1) hB (cut_some y2).2 x1 y3
      subst this
      exact hs ⟨B', y1⟩
noncomputable def layC {β : Type} (bl : Bls) : Tr BK → (Tr BK → β) → β := List.rec (motive := fun _ => Tr BK → (Tr BK → β) → β) (fun t k => k t) (fun p _ ih t k => (sT BK β p.1).f (some p.2) t fun t => ih t k) bl
theorem layC_eq {β : Type} : ∀ (bl : Bls) (t : Tr BK) (k : Tr BK → β), layC bl t k = k (layT bl t)
  | [], t, k => rfl
  | p :: bl, t, k => by
    show (sT BK β p.1).f (some p.2) t (fun t => layC bl t k) = k ((sT BK (Tr BK) p.1).f (some p.2) t (layT bl))
    rw [set_eqR, set_eqR]
    exact layC_eq bl _ k
def isNilL {α : Type} : List α → Bool
  | [] => true
  | _ => false
/-- one entry, run -/
noncomputable def meK (run : Nat → List AV → StK → Option (AV × StK)) (s : StK) (nb : Nat) (e : ME) : Bool :=
  match run e.f e.l s with
  | some (v, s') => sameA v e.v && (isNilL s'.log && (pureA e.v && belowAs nb e.l))
  | none => false
noncomputable def mesK (run : Nat → List AV → StK → Option (AV × StK)) (s : StK) (nb : Nat) (t : List ME) : Bool :=
  List.rec (motive := fun _ => Bool) true (fun e _ ih => Bool.rec (motive := fun _ => Bool) false ih (meK run s nb e)) t
noncomputable def tblK (run : Nat → List AV → StK → Option (AV × StK)) (bl : Bls) (nb : Nat) (t : List ME) : Bool :=
  Bool.rec (motive := fun _ => Bool) false (layC bl .nil fun h => mesK run ⟨h, nb, [], nb, []⟩ nb t) (blsOk nb bl)
theorem tbl_of {run : Nat → List AV → StK → Option (AV × StK)} {c : CallF} (hr : ∀ f l s v s', run f l s = some (v, s') → c f l (absS s) = some (v, absS s')) {bl : Bls} {nb : Nat} {t : List ME} (h : tblK run bl nb t = true) : TblOk c bl nb t := by
  unfold tblK at h
  cases hb : blsOk nb bl with
  | false => rw [hb] at h; cases h
  | true =>
    rw [hb] at h
    have h : layC bl .nil (fun h => mesK run ⟨h, nb, [], nb, []⟩ nb t) = true := h
    rw [layC_eq] at h
    refine ⟨hb, ?_⟩
    have h : mesK run (smS bl nb) nb t = true := h
    have main : ∀ (t : List ME), mesK run (smS bl nb) nb t = true → ∀ e ∈ t, meK run (smS bl nb) nb e = true := by
      intro t
      induction t with
      | nil => intro _ e he; cases he
      | cons a t ih =>
        intro h e he
        have h : (Bool.rec (motive := fun _ => Bool) false (mesK run (smS bl nb) nb t) (meK run (smS bl nb) nb a) : Bool) = true := h
        cases ea : meK run (smS bl nb) nb a with
        | false => rw [ea] at h; cases h
        | true =>
          rw [ea] at h
          rcases List.mem_cons.1 he with rfl | he
          · exact ea
          · exact ih h e he
    intro e he
    have h1 := main t h e he
    unfold meK at h1
    split at h1
    · rename_i v s' hv
      simp only [Bool.and_eq_true] at h1
      obtain ⟨h1, h2, h3, h4⟩ := h1
      have := sameA_eq h1
      subst this
      refine ⟨h4, h3, absS s', hr _ _ _ _ _ hv, fun k hk => ?_⟩
      show memN s'.log k = false
      cases e1 : s'.log with
      | nil => rfl
      | cons a l => rw [e1] at h2; cases h2
    · cases h1
/-- several tables, one after another -/
structure MM where
  fs : List Nat
  bl : Bls
  nb : Nat
  t : List ME
noncomputable def memosK (b : CallK) (ms : List MM) : CallK := List.rec (motive := fun _ => CallK) b (fun m _ ih => orK (memoK m.fs m.bl m.t) ih) ms
noncomputable def memosF (b : CallF) (ms : List MM) : CallF := List.rec (motive := fun _ => CallF) b (fun m _ ih => orF (memoF m.fs m.bl m.t) ih) ms
theorem memos_eq {b : CallK} {b' : CallF} (h : CallEq b b') : ∀ ms, CallEq (memosK b ms) (memosF b' ms)
  | [] => h
  | m :: ms => or_eq (memo_eq m.fs m.bl m.t) (memos_eq h ms)
theorem memos_upd {b : CallF} (h : CallUpd b) : ∀ ms, CallUpd (memosF b ms)
  | [] => h
  | m :: ms => or_upd (memo_upd m.fs m.bl m.t) (memos_upd h ms)
def TblsOk (c : CallF) : List MM → Prop
  | [] => True
  | m :: ms => TblOk c m.bl m.nb m.t ∧ TblsOk c ms
theorem memos_ok {P : Program} {K : Nat → Option Obj} {c b : CallF} (hc : CallOk P K c) (hb : CallOk P K b) : ∀ {ms}, TblsOk c ms → CallOk P K (memosF b ms)
  | [], _ => hb
  | m :: ms, h => or_ok (memo_ok hc h.1) (memos_ok hc hb h.2)
end Go.Proofs.YtjbnkokcbhfdgabGreatDoor.Ev
