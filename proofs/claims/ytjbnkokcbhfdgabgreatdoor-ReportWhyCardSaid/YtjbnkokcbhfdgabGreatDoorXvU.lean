/- errors.As at a concrete target, as a hook of the evaluator. -/
import Derived.Test.YtjbnkokcbhfdgabGreatDoorXvS
import Derived.Test.YtjbnkokcbhfdgabGreatDoorXvG
namespace Go.Proofs.YtjbnkokcbhfdgabGreatDoor.Ev
open Go Go.RowKit Go.Proofs
set_option linter.unusedVariables false

/-- the handle of the type 'error' lies in its variable -/
def Han (w : World) : Prop := w.cell? ⟨0, 0, none⟩ = some (.iface 376 (.agg #[.pointer (some ⟨5, 64, none⟩)]))
theorem Han.kept {w w' : World} (h : Han w) (hk : ∀ r o, keptOf w r = some o → w'.heap[r]? = some o) : Han w' := by
  unfold Han World.cell? at h ⊢
  cases hr : w.heap[0]? with
  | none => simp only at h; rw [hr] at h; simp at h
  | some o =>
    simp only at h ⊢
    rw [hr] at h
    rw [hk 0 o hr]
    exact h
structure AsA where
  b : Nat
  o : Nat
  b' : Nat
  o' : Nat
def asArg (l : List AV) : Option AsA := match l with
  | [.v (.c (.iface t b o)), .v (.c (.iface t' b' o'))] => chk (Nat.beq t 135) (chk (Nat.beq t' 231) (some ⟨b, o, b', o'⟩))
  | _ => none
def asF : CallF := fun f l s => chk (Nat.beq f 129) ((asArg l).bind fun a => pkS (overE s a.b' a.o' [.ptr a.b a.o] (.bool true)))
noncomputable def asK : CallK := fun f l s => ib (Nat.beq f 129) (ob (asArg l) fun a => kS (overEK s a.b' a.o' [.ptr a.b a.o] (.bool true))) none
theorem as_eq : CallEq asK asF := by
  intro f l s
  simp only [asK, asF, ib_eq, ob_eq, map_chk, map_bind', kS_eq, overEK_eq]
theorem as_upd : CallUpd asF := by
  intro f l s v s' h ht
  simp only [asF, chk_some, Option.bind_eq_some_iff] at h
  obtain ⟨_, a, _, h⟩ := h
  simp only [pkS, Option.bind_eq_some_iff] at h
  obtain ⟨q, h1, h2⟩ := h
  cases h2
  exact overE_upd ht h1
theorem grew4 (w : World) (a b c d : Obj) : Grew w ((((w.alloc a).alloc b).alloc c).alloc d) := by
  have g := grew_alloc w a
  have g1 := grew_alloc (w.alloc a) b
  have g2 := grew_alloc ((w.alloc a).alloc b) c
  have g3 := grew_alloc (((w.alloc a).alloc b).alloc c) d
  exact ⟨by rw [g3.os, g2.os, g1.os, g.os], by rw [g3.tape, g2.tape, g1.tape, g.tape], by rw [g3.output, g2.output, g1.output, g.output], Nat.le_trans g.size (Nat.le_trans g1.size (Nat.le_trans g2.size g3.size)),
    fun r hr => by rw [g3.block r (Nat.lt_of_lt_of_le hr (Nat.le_trans g.size (Nat.le_trans g1.size g2.size))), g2.block r (Nat.lt_of_lt_of_le hr (Nat.le_trans g.size g1.size)), g1.block r (Nat.lt_of_lt_of_le hr g.size), g.block r hr]⟩
theorem as_ok {K : Nat → Option Obj} (hT : ∀ φ w, Kept K φ w → Han w) : CallOk Tryz.prog K asF := by
  intro f l s v s' h φ w args hr hK hv
  simp only [asF, chk_some, Option.bind_eq_some_iff] at h
  obtain ⟨hf, a, ha, h⟩ := h
  have hf := Nat.eq_of_beq_eq_true hf
  subst hf
  simp only [pkS, Option.bind_eq_some_iff] at h
  obtain ⟨q, h1, h2⟩ := h
  cases h2
  unfold asArg at ha
  split at ha
  · rename_i t b o t' b' o'
    simp only [chk_some] at ha
    obtain ⟨e1, e2, e3⟩ := ha
    cases e3
    have e1 := Nat.eq_of_beq_eq_true e1; have e2 := Nat.eq_of_beq_eq_true e2
    subst e1; subst e2
    obtain ⟨u, us, hl⟩ : ∃ u us, args.toList = u :: us := by
      cases hl : args.toList with
      | nil => rw [hl] at hv; exact hv.elim
      | cons u us => exact ⟨u, us, rfl⟩
    rw [hl] at hv
    obtain ⟨hu, hv⟩ := hv
    obtain ⟨u', rfl⟩ : ∃ u', us = [u'] := by
      cases us with
      | nil => exact hv.elim
      | cons u' us => cases us with
        | nil => exact ⟨u', rfl⟩
        | cons _ _ => exact hv.2.elim
    obtain ⟨p, hp, rfl⟩ : ∃ p, φ b = some p ∧ u = .iface 135 (.pointer (some ⟨p.1, p.3 + o, none⟩)) := hu
    obtain ⟨p', hp', rfl⟩ : ∃ p, φ b' = some p ∧ u' = .iface 231 (.pointer (some ⟨p.1, p.3 + o', none⟩)) := hv.1
    obtain rfl : args = #[.iface 135 (.pointer (some ⟨p.1, p.3 + o, none⟩)), .iface 231 (.pointer (some ⟨p'.1, p'.3 + o', none⟩))] := Array.ext' hl
    refine ⟨callFunc_body Tryz.func129 rfl (of_decide_eq_false (by kernel_rfl)), ?_⟩
    have hvl : VL φ [.ptr b o] [Value.pointer (some ⟨p.1, p.3 + o, none⟩)] := ⟨⟨p, hp, rfl⟩, trivial⟩
    have th := (overE_ok hr hp' hvl h1).2.2 0 (by simp)
    obtain ⟨old, hold⟩ := Option.isSome_iff_exists.1 th.1
    have o2 : ∀ W, Grew w W → q.1 = .bool true ∧ Out φ s W φ q.2 (W.setCell ⟨p'.1, p'.3 + o', none⟩ (.pointer (some ⟨p.1, p.3 + o, none⟩))) := fun W hg => by
      obtain ⟨h3, h4, _⟩ := overE_ok (hr.of_same hg) hp' hvl h1
      exact ⟨h3, h4⟩
    refine (as_hit ⟨p.1, p.3 + o, none⟩ ⟨p'.1, p'.3 + o', none⟩ old w (hT φ w hK) hold th.2).mono ?_
    rintro e w' ⟨rfl, rfl⟩
    obtain ⟨h3, h4⟩ := o2 _ (grew4 w _ _ _ _)
    refine ⟨φ, .bool true, Out.trans hr (Out.same hr (grew4 w _ _ _ _)) h4, ?_, rfl⟩
    rw [h3]; rfl
  · cases ha
end Go.Proofs.YtjbnkokcbhfdgabGreatDoor.Ev
