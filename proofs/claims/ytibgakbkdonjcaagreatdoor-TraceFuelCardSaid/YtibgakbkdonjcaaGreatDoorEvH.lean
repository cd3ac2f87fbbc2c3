/- The evaluator's states in a walk: what stands, what a call makes of it, what may be let go again. -/
import Derived.Test.YtibgakbkdonjcaaGreatDoorEvG
namespace Go.Proofs.YtibgakbkdonjcaaGreatDoor.Ev
open Go Go.RowKit
set_option linter.unusedVariables false

/-- a state that stands in the world, none of its rows below B -/
structure Good (B : Nat) (φ : Mp) (s : StK) (w : World) : Prop where
  rel : Rel φ (absS s) w
  rows : ∀ k p, φ k = some p → B ≤ p.1
  size : B ≤ w.heap.size

theorem Good.seen {B : Nat} {φ : Mp} {s : StK} {w : World} (G : Good B φ s w) {r : Nat} (h : Seen φ (absS s) r) : B ≤ r := by
  obtain ⟨k, C, p, _, h2, rfl⟩ := h
  exact G.rows k p h2

theorem Good.out {B : Nat} {φ φ' : Mp} {s s' : StK} {w w' : World} (G : Good B φ s w) (h : Out φ (absS s) w φ' (absS s') w') : Good B φ' s' w' ∧ Below B w w' := by
  refine ⟨⟨h.rel, fun k p hk => ?_, Nat.le_trans G.size h.size⟩, ⟨h.os, h.tape, h.output, h.size, fun r hr => h.keep r (Nat.lt_of_lt_of_le hr G.size) fun hs => ?_⟩⟩
  · cases h0 : φ k with
    | none =>
      rcases h.new k p h0 hk with h1 | h1
      · exact Nat.le_trans G.size h1
      · exact G.seen h1
    | some q =>
      have := h.ext k q h0
      rw [hk] at this; cases this
      exact G.rows k p h0
  · have := G.seen hs; omega

theorem go {B : Nat} {φ : Mp} {s s' : StK} {w : World} {f : Nat} {l : List AV} {v : AV} (h : run f l s = some (v, s')) (G : Good B φ s w) {args : Array Value} (ha : VAs φ l args.toList) :
    Calls Tryz.prog f args w fun e w' => ∃ φ' u, Good B φ' s' w' ∧ Below B w w' ∧ VA φ' v u ∧ e = .returned u ∧ ∀ k, k < s.n → φ' k = φ k :=
  ((run_ok f l _ _ _ (run_spec h) _ w args G.rel ha).2).mono fun e w' he => by
    obtain ⟨φ', u, h2, h3, rfl⟩ := he
    obtain ⟨g1, g2⟩ := G.out h2
    exact ⟨φ', u, g1, g2, h3, rfl, h2.old⟩

/-! what may be let go -/
def beqI : Int → Int → Bool := ieq
def beqCap : Cap → Cap → Bool
  | .fix a, .fix b => Nat.beq a b
  | .opn a, .opn b => Nat.beq a b
  | _, _ => false
def beqPs : List (Nat × Nat) → List (Nat × Nat) → Bool
  | [], [] => true
  | (a, b) :: l, (c, d) :: m => Nat.beq a c && (Nat.beq b d && beqPs l m)
  | _, _ => false
def beqCV : CV → CV → Bool
  | .bool a, .bool b => beqB a b
  | .int k a, .int j b => beqKind k j && ieq a b
  | .ptr a b, .ptr c d => Nat.beq a c && Nat.beq b d
  | .nil, .nil => true
  | .slice a b c d, .slice e f g h => Nat.beq a e && (Nat.beq b f && (Nat.beq c g && beqCap d h))
  | .snil, .snil => true
  | .func a l, .func b m => Nat.beq a b && beqPs l m
  | .nilf, .nilf => true
  | .nili, .nili => true
  | .iface a b c, .iface d e f => Nat.beq a d && (Nat.beq b e && Nat.beq c f)
  | _, _ => false
def beqCVs : List CV → List CV → Bool
  | [], [] => true
  | a :: l, b :: m => beqCV a b && beqCVs l m
  | _, _ => false
theorem beqPs_eq : ∀ {l m : List (Nat × Nat)}, beqPs l m = true → l = m
  | [], [], _ => rfl
  | (a, b) :: l, (c, d) :: m, h => by
    simp only [beqPs, Bool.and_eq_true, Nat.beq_eq] at h
    rw [h.1, h.2.1, beqPs_eq h.2.2]
  | [], _ :: _, h => by cases h
  | _ :: _, [], h => by cases h
theorem beqCap_eq {a b : Cap} (h : beqCap a b = true) : a = b := by
  cases a <;> cases b <;> simp only [beqCap, Nat.beq_eq] at h <;> first | rw [h] | cases h
theorem beqCV_eq {a b : CV} (h : beqCV a b = true) : a = b := by
  cases a <;> cases b <;> simp only [beqCV, Bool.and_eq_true, Nat.beq_eq] at h <;> first
    | rfl
    | (rw [beqB_eq, beq_iff_eq] at h; rw [h])
    | (rw [beqKind_eq h.1]; have h2 := h.2; rw [ieq_eq, beq_iff_eq] at h2; rw [h2])
    | (rw [h.1, h.2.1, h.2.2.1, beqCap_eq h.2.2.2])
    | (rw [h.1, beqPs_eq h.2])
    | (rw [h.1, h.2.1, h.2.2])
    | (rw [h.1, h.2])
    | cases h
theorem beqCVs_eq : ∀ {l m : List CV}, beqCVs l m = true → l = m
  | [], [], _ => rfl
  | a :: l, b :: m, h => by
    simp only [beqCVs, Bool.and_eq_true] at h
    rw [beqCV_eq h.1, beqCVs_eq h.2]
  | [], _ :: _, h => by cases h
  | _ :: _, [], h => by cases h

/-- all numbers that a value names are below n -/
def lowPs (n : Nat) : List (Nat × Nat) → Bool
  | [] => true
  | (b, _) :: l => Nat.blt b n && lowPs n l
def lowCV (n : Nat) : CV → Bool
  | .ptr b _ => Nat.blt b n
  | .slice b _ _ _ => Nat.blt b n
  | .func _ l => lowPs n l
  | .iface _ b _ => Nat.blt b n
  | _ => true
def lowCVs (n : Nat) : List CV → Bool
  | [] => true
  | c :: l => lowCV n c && lowCVs n l
theorem lowPs_ok {φ : Mp} {n : Nat} : ∀ {l : List (Nat × Nat)} {vs : List Value}, lowPs n l = true → VP φ l vs → VP (cut φ n) l vs
  | [], [], _, _ => trivial
  | (b, o) :: l, v :: vs, h, ⟨⟨p, h1, h2⟩, h3⟩ => by
    simp only [lowPs, Bool.and_eq_true, Nat.blt_eq] at h
    exact ⟨⟨p, cut_of h.1 h1, h2⟩, lowPs_ok h.2 h3⟩
theorem lowCV_ok {φ : Mp} {n : Nat} {c : CV} {u : Value} (h : lowCV n c = true) (hv : VC φ c u) : VC (cut φ n) c u := by
  cases c with
  | slice b o n' cp =>
    simp only [lowCV, Nat.blt_eq] at h
    cases cp <;> (obtain ⟨p, h1, h2⟩ := hv; exact ⟨p, cut_of h h1, h2⟩)
  | ptr b o => simp only [lowCV, Nat.blt_eq] at h; obtain ⟨p, h1, h2⟩ := hv; exact ⟨p, cut_of h h1, h2⟩
  | iface t b o => simp only [lowCV, Nat.blt_eq] at h; obtain ⟨p, h1, h2⟩ := hv; exact ⟨p, cut_of h h1, h2⟩
  | func f l => obtain ⟨p, h1, h2⟩ := hv; exact ⟨p, lowPs_ok h h1, h2⟩
  | _ => exact hv
theorem lowCVs_ok {φ : Mp} {n : Nat} : ∀ {l : List CV} {vs : List Value}, lowCVs n l = true → VL φ l vs → VL (cut φ n) l vs
  | [], [], _, _ => trivial
  | c :: l, v :: vs, h, ⟨h1, h2⟩ => by
    simp only [lowCVs, Bool.and_eq_true] at h
    exact ⟨lowCV_ok h.1 h1, lowCVs_ok h.2 h2⟩

/-- what t has, s has, and it names nothing from t's count on -/
def back1 (n : Nat) (a b : Option BK) : Bool :=
  match a with
  | none => true
  | some x => match b with
    | none => false
    | some y => beqCVs x.cells y.cells && (Nat.beq x.elem y.elem && (Nat.beq x.os y.os && lowCVs n x.cells))
noncomputable def backTo (t s : StK) (m : Nat) : Nat → Bool := fun k => Nat.rec true (fun k ih => Bool.rec false ih (back1 m (getK t k) (getK s k))) k
noncomputable def backOk (t s : StK) : Bool := Bool.rec false (List.rec true (fun _ _ _ => false) t.forb) (backTo t s t.n t.n)

theorem backTo_spec {t s : StK} {m : Nat} : ∀ {n : Nat}, backTo t s m n = true → ∀ k, k < n → back1 m (getK t k) (getK s k) = true
  | 0, _, k, hk => by omega
  | n + 1, h, k, hk => by
    rw [show backTo t s m (n + 1) = Bool.rec false (backTo t s m n) (back1 m (getK t n) (getK s n)) from rfl] at h
    cases hb : back1 m (getK t n) (getK s n) with
    | false => rw [hb] at h; cases h
    | true =>
      rw [hb] at h
      by_cases e : k = n
      · subst e; exact hb
      · exact backTo_spec (n := n) h k (by omega)

theorem Good.back {B : Nat} {φ : Mp} {s t : StK} {w : World} (G : Good B φ s w) (h : backOk t s = true) (htop : Top (absS t)) : Good B (cut φ t.n) t w := by
  have hb : backTo t s t.n t.n = true := by
    cases hb : backTo t s t.n t.n with
    | true => rfl
    | false => unfold backOk at h; rw [hb] at h; cases h
  have hin : ∀ k C, (absS t).get k = some C → (absS s).get k = some C ∧ k < t.n ∧ lowCVs t.n C.cells = true := by
    intro k C hk
    have hlt : k < t.n := htop.lt hk
    have h1 := backTo_spec hb k hlt
    rw [getK_eq, getK_eq, hk] at h1
    unfold back1 at h1
    simp only at h1
    cases hs : (absS s).get k with
    | none => rw [hs] at h1; cases h1
    | some D =>
      rw [hs] at h1
      simp only [Bool.and_eq_true, Nat.beq_eq] at h1
      obtain ⟨h2, h3, h4, h5⟩ := h1
      have h2 := beqCVs_eq h2
      refine ⟨?_, hlt, h5⟩
      cases C; cases D
      simp only at h2 h3 h4
      rw [h2, h3, h4]
  refine ⟨⟨fun k C hk => ?_, fun k k' C C' p p' h1 h2 h3 h4 h5 => ?_, fun k hk => ?_, htop⟩, fun k p hk => G.rows k p (cut_some hk).2, G.size⟩
  · obtain ⟨h1, h2, h3⟩ := hin k C hk
    obtain ⟨p, c, g1, g2, l, tl, g3, g4⟩ := G.rel.blk k C h1
    exact ⟨p, c, cut_of h2 g1, g2, l, tl, lowCVs_ok h3 g3, g4⟩
  · exact G.rel.inj k k' C C' p p' (hin k C h1).1 (hin k' C' h2).1 (cut_some h3).2 (cut_some h4).2 h5
  · have : (absS t).n = t.n := rfl
    unfold cut; rw [if_neg (by omega)]

/-- a call that leaves all as it was, what it made aside -/
theorem stay {B : Nat} {φ : Mp} {s s' : StK} {w : World} {f : Nat} {l : List AV} {v : AV} (h : run f l s = some (v, s')) (hb : backOk s s' = true) (G : Good B φ s w) {args : Array Value} (ha : VAs φ l args.toList) :
    Calls Tryz.prog f args w fun e w' => ∃ φ' u, Good B φ s w' ∧ Below B w w' ∧ VA φ' v u ∧ e = .returned u :=
  (go h G ha).mono fun e w' he => by
    obtain ⟨φ', u, g1, g2, g3, rfl, g4⟩ := he
    have g5 := g1.back hb G.rel.top
    have : cut φ' s.n = φ := by
      funext k
      unfold cut
      split
      · rename_i hk; exact g4 k hk
      · rename_i hk; exact (G.rel.fresh k (by have : (absS s).n = s.n := rfl; omega)).symm
    rw [this] at g5
    exact ⟨φ', u, g5, g2, g3, rfl⟩

/-- one block more, as the walk makes it -/
theorem Good.new {B : Nat} {φ : Mp} {s s' : StK} {w : World} (G : Good B φ s w) {cs : List CV} {us : List Value} {e b : Nat} (h : newK s ⟨cs, e, 0⟩ = some (b, s')) (hv : VL φ cs us) :
    ∃ φ', Good B φ' s' (w.alloc (.cells us.toArray e)) ∧ φ' b = some (w.heap.size, 0) ∧ ∀ k, k < s.n → φ' k = φ k := by
  have h1 := newK_eq s ⟨cs, e, 0⟩
  rw [h] at h1
  have h2 : (absS s).new ⟨cs, e, 0⟩ = some (b, absS s') := h1.symm
  obtain ⟨φ', o1, o2⟩ := newAt G.rel hv h2
  exact ⟨φ', (G.out o1).1, o2, o1.old⟩

theorem good0 (w : World) : Good w.heap.size (fun _ => none) s0 w := ⟨rel_s0 w, fun k p h => (by cases h), Nat.le_refl _⟩
end Go.Proofs.YtibgakbkdonjcaaGreatDoor.Ev
