/- Each operation of the evaluator is the model's. -/
import Derived.Laws.StructEq
import Derived.Test.YtjbnkokcbhfdgabGreatDoorXvA
namespace Go.Proofs.YtjbnkokcbhfdgabGreatDoor.Ev
open Go Go.RowKit
set_option linter.unusedVariables false
set_option linter.unusedSimpArgs false
set_option linter.unusedSectionVars false
set_option linter.unnecessarySimpa false
structure Env (P : Program) (ty : Nat → Option TI) (held : Nat → Bool) : Prop where
  ty : ∀ t ti, ty t = some ti → tyInfo P t = some ti
  held : ∀ t, held t = P.stoodInHeld t

structure TyOf (P : Program) (t : Nat) (ti : TI) (i : TypeInfo) : Prop where
  info : P.info? t = some i
  und : P.underlying t = some ti.desc
  size : i.size = ti.size
  bytes : i.bytes = ti.bytes
  agg : ti.agg = isAggD ti.desc
  zero : zeroOf i.zero = ti.zero
  z : zeroTV i.zero = ti.z

theorem Env.of {P : Program} {ty : Nat → Option TI} {held : Nat → Bool} (E : Env P ty held) {t : Nat} {ti : TI} (h : ty t = some ti) : ∃ i, TyOf P t ti i := by
  have h := E.ty t ti h
  simp only [tyInfo, Option.bind_eq_some_iff] at h
  obtain ⟨i, h1, d, h2, h3⟩ := h
  cases h3
  exact ⟨i, h1, h2, rfl, rfl, rfl, rfl, rfl⟩

def TR (φ : Mp) (T : TM) (ρ : Operand → Value) : Prop := ∀ x v, ev T x = some v → VA φ v (ρ x)

theorem evc_some {T : TM} {x : Operand} {c : CV} (h : evc T x = some c) : ev T x = some (.v (.c c)) := by
  unfold evc at h
  rw [Option.bind_eq_some_iff] at h
  obtain ⟨v, h1, h2⟩ := h
  unfold cOf at h2
  split at h2
  · cases h2; exact h1
  · cases h2
theorem evt_some {T : TM} {x : Operand} {c : TV} (h : evt T x = some c) : ev T x = some (.v c) := by
  unfold evt at h
  rw [Option.bind_eq_some_iff] at h
  obtain ⟨v, h1, h2⟩ := h
  unfold tOf at h2
  split at h2
  · cases h2; exact h1
  · cases h2

section
variable {P : Program} {ty : Nat → Option TI} {held : Nat → Bool} (E : Env P ty held) {φ : Mp} {s : St} {w : World} {T : TM} {ρ : Operand → Value}

theorem TR.c (ht : TR φ T ρ) {x : Operand} {c : CV} (h : evc T x = some c) : VC φ c (ρ x) := ht x _ (evc_some h)
theorem TR.t (ht : TR φ T ρ) {x : Operand} {c : TV} (h : evt T x = some c) : VT φ c (ρ x) := ht x _ (evt_some h)

/-- the model's run of an operation yields what the evaluator has -/
def Goes (P : Program) (φ : Mp) (s : St) (w : World) (e : Sem Next) (v : AV) (s' : St) : Prop :=
  ∃ φ' w' u, Out φ s w φ' s' w' ∧ VA φ' v u ∧ (e.run P w = .ok (.value u) w' ∨ (e.run P w = .ok .skip w' ∧ u = undef))

/-- the same of a value's run -/
def GoesV (P : Program) (φ : Mp) (s : St) (w : World) (e : Sem Value) (v : AV) (s' : St) : Prop :=
  ∃ φ' w' u, Out φ s w φ' s' w' ∧ VA φ' v u ∧ e.run P w = .ok u w'

theorem GoesV.goes {e : Sem Value} {v : AV} {s' : St} (h : GoesV P φ s w e v s') : Goes P φ s w (do pure (.value (← e))) v s' := by
  obtain ⟨φ', w', u, h1, h2, h3⟩ := h
  exact ⟨φ', w', u, h1, h2, .inl (by simp [Sem.run_bind, h3])⟩

theorem goesV_pure (hr : Rel φ s w) {e : Sem Value} {v : AV} {u : Value} (hv : VA φ v u) (h : e.run P w = .ok u w) : GoesV P φ s w e v s :=
  ⟨φ, w, u, Out.refl hr, hv, h⟩

theorem pkM_some {s s' : St} {x : Option CV} {v : AV} : pkM s x = some (v, s') ↔ ∃ c, x = some c ∧ v = .v (.c c) ∧ s' = s := by
  unfold pkM; rw [Option.bind_eq_some_iff]; simp [eq_comm]
theorem pkT_some {s s' : St} {x : Option TV} {v : AV} : pkT s x = some (v, s') ↔ ∃ c, x = some c ∧ v = .v c ∧ s' = s := by
  unfold pkT; rw [Option.bind_eq_some_iff]; simp [eq_comm]
theorem pkA_some {s s' : St} {x : Option AV} {v : AV} : pkA s x = some (v, s') ↔ x = some v ∧ s' = s := by
  unfold pkA; rw [Option.bind_eq_some_iff]
  constructor
  · rintro ⟨q, h1, h2⟩; cases h2; exact ⟨h1, rfl⟩
  · rintro ⟨h1, rfl⟩; exact ⟨_, h1, rfl⟩
theorem pkS_some {s' : St} {x : Option (CV × St)} {v : AV} : pkS x = some (v, s') ↔ ∃ c, x = some (c, s') ∧ v = .v (.c c) := by
  unfold pkS; rw [Option.bind_eq_some_iff]
  constructor
  · rintro ⟨q, h1, h2⟩
    cases h2
    exact ⟨q.1, h1, rfl⟩
  · rintro ⟨c, h1, rfl⟩
    exact ⟨_, h1, rfl⟩

theorem ptrOf_some {c : CV} {p : Nat × Nat} (h : ptrOf c = some p) : c = .ptr p.1 p.2 := by
  unfold ptrOf at h; split at h <;> cases h; rfl
theorem natOf_some {c : CV} {n : Nat} (h : natOf c = some n) : ∃ k, c = .int k (.ofNat n) := by
  unfold natOf at h; split at h <;> cases h; exact ⟨_, rfl⟩
theorem boolOf_some {c : CV} {b : Bool} (h : boolOf c = some b) : c = .bool b := by
  unfold boolOf at h; split at h <;> cases h; rfl
theorem aggOf_some {c : TV} {l : List CV} (h : aggOf c = some l) : c = .agg l := by
  unfold aggOf at h; split at h <;> cases h; rfl
theorem strOf_some {c : TV} {l : ByteArray} (h : strOf c = some l) : c = .c (.str l) := by
  unfold strOf at h; split at h <;> cases h; rfl
theorem fnOf_some {c : CV} {p : Nat × List (Nat × Nat)} (h : fnOf c = some p) : c = .func p.1 p.2 := by
  unfold fnOf at h; split at h <;> cases h; rfl

theorem two_pows : ((2 : Int) ^ 8 = 256) ∧ ((2 : Int) ^ 16 = 65536) ∧ ((2 : Int) ^ 32 = 4294967296) ∧ ((2 : Int) ^ 64 = 18446744073709551616) ∧
    ((2 : Int) ^ 7 = 128) ∧ ((2 : Int) ^ 15 = 32768) ∧ ((2 : Int) ^ 31 = 2147483648) ∧ ((2 : Int) ^ 63 = 9223372036854775808) := by decide

theorem wrap_of_inR {k : IntKind} {r : Int} (h : inR k r = true) : k.wrap r = r := by
  obtain ⟨e1, e2, e3, e4, e5, e6, e7, e8⟩ := two_pows
  unfold inR at h
  unfold IntKind.wrap
  cases r with
  | ofNat n =>
    rw [Int.ofNat_eq_natCast]
    cases k <;> simp only [hiOf, Nat.blt_eq] at h <;>
      simp only [IntKind.bits, IntKind.signed, Nat.add_one_sub_one, Nat.reduceSub, e1, e2, e3, e4, e5, e6, e7, e8, Bool.true_and, Bool.false_and, decide_eq_true_eq, Bool.false_eq_true, if_false, ge_iff_le] <;>
      (try split) <;> omega
  | negSucc n =>
    rw [Int.negSucc_eq]
    cases k <;> simp only [loOf, Nat.blt_eq] at h <;>
      simp only [IntKind.bits, IntKind.signed, Nat.add_one_sub_one, Nat.reduceSub, e1, e2, e3, e4, e5, e6, e7, e8, Bool.true_and, Bool.false_and, decide_eq_true_eq, Bool.false_eq_true, if_false, ge_iff_le] <;>
      (try split) <;> omega

end
section
variable {P : Program} {ty : Nat → Option TI} {held : Nat → Bool} {φ : Mp} {s : St} {w : World} {T : TM} {ρ : Operand → Value}

theorem convIn_some {k : IntKind} {n : Int} {r : CV} (h : convIn k n = some r) : ∃ m, r = .int k m ∧ k.wrap n = m := by
  unfold convIn at h
  split at h
  · rename_i h7; cases h; exact ⟨n, rfl, wrap_of_inR h7⟩
  · rename_i h7
    split at h
    · rename_i m
      simp only [chk_some, Nat.blt_eq] at h
      obtain ⟨h1, h2⟩ := h
      cases h2
      refine ⟨_, rfl, ?_⟩
      have h7 : Nat.blt m 9223372036854775808 = false := h7
      have h8 : ¬ m < 9223372036854775808 := by
        intro hc
        have h9 : Nat.blt m 9223372036854775808 = true := by rw [Nat.blt_eq]; exact hc
        rw [h9] at h7
        cases h7
      obtain ⟨e1, e2, e3, e4, e5, e6, e7, e8⟩ := two_pows
      unfold IntKind.wrap
      simp only [IntKind.bits, IntKind.signed, Nat.add_one_sub_one, Nat.reduceSub, e1, e2, e3, e4, e5, e6, e7, e8, Bool.true_and, Bool.false_and, decide_eq_true_eq, Bool.false_eq_true, if_false, ge_iff_le, Int.ofNat_eq_natCast, Int.negSucc_eq]
      have e9 : Nat.sub 18446744073709551615 m = 18446744073709551615 - m := rfl
      rw [e9]
      split <;> omega
    · cases h

theorem conv_ok (E : Env P ty held) {src dst : Nat} {x : Operand} {r : CV} (hr : Rel φ s w) (ht : TR φ T ρ) (h : convE ty src dst x T = some r) : GoesV P φ s w (convert src dst (ρ x)) (.v (.c r)) s := by
  simp only [convE, Option.bind_eq_some_iff] at h
  obtain ⟨si, h1, ti, h2, k, h3, v, h4, n, h5, h6⟩ := h
  obtain ⟨_, hs⟩ := E.of h1
  obtain ⟨_, hd⟩ := E.of h2
  have hx := ht.c h4
  unfold intV at h5
  split at h5
  · cases h5
    have hx : ρ x = _ := hx
    unfold intD at h3
    split at h3
    · rename_i k' hk
      cases h3
      obtain ⟨m, rfl, hw⟩ := convIn_some h6
      refine goesV_pure hr (u := .int _ _) rfl ?_
      have hu := hd.und
      rw [hk] at hu
      rw [hx]
      simp [convert, Sem.run_bind, run_underlying hs.und, run_underlying hu, Conv.intToInt, hw]
    · cases h3
  · cases h5

theorem iface_ok (E : Env P ty held) {t : Nat} {x : Operand} {r : CV} (hr : Rel φ s w) (ht : TR φ T ρ) (h : ifaceE ty t x T = some r) : GoesV P φ s w (Instr.makeInterface t (ρ x)) (.v (.c r)) s := by
  simp only [ifaceE, Option.bind_eq_some_iff, chk_some] at h
  obtain ⟨ti, h1, h2, v, h3, p, h4, h5⟩ := h
  obtain ⟨_, hd⟩ := E.of h1
  have hx := ht.c h3
  rw [ptrOf_some h4] at hx
  obtain ⟨q, hq, hx⟩ := hx
  cases h5
  refine goesV_pure hr (u := .iface t (ρ x)) ⟨q, hq, by rw [hx]⟩ ?_
  unfold isPtrD at h2
  split at h2
  · rename_i hk
    have hu := hd.und
    rw [hk] at hu
    simp [Instr.makeInterface, Sem.run_bind, run_underlying hu]
  · cases h2

theorem caps_ok (ht : TR φ T ρ) : ∀ {l : List Operand} {r : List (Nat × Nat)}, capsOf T l = some r → VP φ r (l.map ρ)
  | [], r, h => by simp [capsOf] at h; subst h; trivial
  | x :: l, r, h => by
    simp only [capsOf, Option.bind_eq_some_iff] at h
    obtain ⟨v, h1, p, h2, r', h3, h4⟩ := h
    cases h4
    have hx := ht.c h1
    rw [ptrOf_some h2] at hx
    exact ⟨hx, caps_ok ht h3⟩

theorem func_ok {fn : Fn} {first captured : Array Operand} {r : CV} (hr : Rel φ s w) (ht : TR φ T ρ) (h : funcE fn first.toList captured.toList T = some r) :
    GoesV P φ s w (Instr.makeFunc fn (first.map ρ) (captured.map ρ)) (.v (.c r)) s := by
  unfold funcE at h
  split at h
  · rename_i f hf
    simp only [Option.bind_eq_some_iff] at h
    obtain ⟨l, h1, h2⟩ := h
    cases h2
    have h0 : first = #[] := Array.ext' (by simpa using hf)
    subst h0
    refine goesV_pure hr (u := .func (.func f) #[] (captured.map ρ)) ⟨_, caps_ok ht h1, ?_⟩ (by simp [Instr.makeFunc])
    congr 1
    apply Array.ext'
    simp
  · cases h

theorem field_of (E : Env P ty held) {t f : Nat} {p : FP} (h : fieldE ty t f = some p) : ∃ fs fd i, P.underlying t = some (.struct fs) ∧ fs[f]? = some fd ∧ fd.offset = p.off ∧ TyOf P fd.type p.ti i := by
  simp only [fieldE, Option.bind_eq_some_iff] at h
  obtain ⟨ti, h1, fd, h2, fi, h3, h4⟩ := h
  cases h4
  obtain ⟨_, hd⟩ := E.of h1
  obtain ⟨i, hi⟩ := E.of h3
  unfold fieldIn at h2
  split at h2
  · rename_i fs hk
    exact ⟨fs, fd, i, by have := hd.und; rwa [hk] at this, by simpa using h2, rfl, hi⟩
  · cases h2

theorem run_sizeOf' {t : Nat} {ti : TI} {i : TypeInfo} (h : TyOf P t ti i) (w : World) : (sizeOf t).run P w = .ok ti.size w := by
  simp [sizeOf, typeInfo, h.info, h.size]

theorem run_isAgg' {t : Nat} {ti : TI} {i : TypeInfo} (h : TyOf P t ti i) (w : World) : (isAgg t).run P w = .ok ti.agg w := by
  rw [h.agg]
  unfold isAgg
  rw [Sem.run_bind, run_underlying h.und]
  cases ti.desc <;> rfl

theorem fieldAddr_ok (E : Env P ty held) {t f : Nat} {x : Operand} {r : CV} (hr : Rel φ s w) (ht : TR φ T ρ) (h : fieldAddrE ty t x f T = some r) : GoesV P φ s w (Instr.fieldAt t (ρ x) f) (.v (.c r)) s := by
  simp only [fieldAddrE, Option.bind_eq_some_iff, chk_some] at h
  obtain ⟨p, h1, v, h2, q, h3, h4, h5⟩ := h
  cases h5
  obtain ⟨fs, fd, i, hu, hf, ho, hi⟩ := field_of E h1
  have hx := ht.c h2
  rw [ptrOf_some h3] at hx
  obtain ⟨m, hm, hx⟩ := hx
  refine goesV_pure hr (u := .pointer (some ⟨m.1, m.3 + (q.2 + p.off), none⟩)) ⟨m, hm, rfl⟩ ?_
  have h0 : ¬ (p.ti.size = 0) := by intro e; rw [e] at h4; exact absurd h4 (by decide)
  simp [Instr.fieldAt, Sem.run_bind, run_underlying hu, hf, hx, Instr.sureAddr, fieldPlace, run_sizeOf' hi, h0, Addr.add_mid, ho, Nat.add_assoc]

theorem part_ok {t : Nat} {ti : TI} {i : TypeInfo} (hi : TyOf P t ti i) {off : Nat} {l : List CV} {vs : List Value} {r : TV} (hv : VL φ l vs) (h : partE ti off l = some r) (w : World) :
    ∃ u, VT φ r u ∧ (part t vs.toArray off).run P w = .ok u w := by
  simp only [partE, Option.bind_eq_some_iff, dropN_some] at h
  obtain ⟨l', ⟨h1, rfl⟩, h2⟩ := h
  have hl := hv.length
  unfold part
  rw [Sem.run_bind, run_isAgg' hi]
  split at h2
  · rename_i ha
    simp only [Option.bind_eq_some_iff, takeN_some] at h2
    obtain ⟨r', ⟨h3, rfl⟩, h4⟩ := h2
    cases h4
    refine ⟨.agg ((vs.drop off).take ti.size).toArray, ⟨_, (hv.drop off).take _, rfl⟩, ?_⟩
    simp [ha, Sem.run_bind, run_sizeOf' hi, List.extract_toArray, List.extract_eq_take_drop]
  · rename_i ha
    unfold headT at h2
    split at h2
    · rename_i c l' hc
      cases h2
      have := hv.drop off
      rw [hc] at this
      cases hd : vs.drop off with
      | nil => rw [hd] at this; exact this.elim
      | cons u us =>
        rw [hd] at this
        refine ⟨u, this.1, ?_⟩
        have hg : vs[off]? = some u := by rw [← List.head?_drop, hd]; rfl
        simp [ha, hg]
    · cases h2

theorem fieldV_ok (E : Env P ty held) {t f : Nat} {x : Operand} {r : TV} (hr : Rel φ s w) (ht : TR φ T ρ) (h : fieldVE ty t x f T = some r) : GoesV P φ s w (Instr.field t (ρ x) f) (.v r) s := by
  simp only [fieldVE, Option.bind_eq_some_iff] at h
  obtain ⟨p, h1, v, h2, l, h3, h4⟩ := h
  obtain ⟨fs, fd, i, hu, hf, ho, hi⟩ := field_of E h1
  have hx := ht.t h2
  rw [aggOf_some h3] at hx
  obtain ⟨vs, hvs, hx⟩ := hx
  obtain ⟨u, h5, h6⟩ := part_ok hi hvs h4 w
  refine goesV_pure hr h5 ?_
  simp [Instr.field, Sem.run_bind, run_underlying hu, hf, hx, asAgg, ho, h6]

theorem indexAddr_ok (E : Env P ty held) {t : Nat} {x ix : Operand} {r : CV} (hr : Rel φ s w) (ht : TR φ T ρ) (h : indexAddrE ty t x ix T = some r) : GoesV P φ s w (Instr.indexAt t (ρ x) (ρ ix)) (.v (.c r)) s := by
  simp only [indexAddrE, Option.bind_eq_some_iff] at h
  obtain ⟨ti, h1, v, h2, c, h3, n, h4, h5⟩ := h
  obtain ⟨_, hd⟩ := E.of h1
  have hx := ht.c h2
  obtain ⟨k, rfl⟩ := natOf_some h4
  have hi : ρ ix = _ := ht.c h3
  unfold indexAt at h5
  split at h5
  · rename_i e hk
    have hu := hd.und
    rw [hk] at hu
    split at h5
    · rename_i b o len cp
      simp only [chk_some, Option.bind_eq_some_iff, Nat.blt_eq] at h5
      obtain ⟨h6, ei, h7, h8⟩ := h5
      cases h8
      obtain ⟨_, he⟩ := E.of h7
      have : ∃ m cc, φ b = some m ∧ ρ x = .slice (some ⟨m.1, m.3 + o, none⟩) len cc := by
        cases cp <;> (obtain ⟨m, hm, hx⟩ := hx; exact ⟨m, _, hm, hx⟩)
      obtain ⟨m, cc, hm, hx⟩ := this
      refine goesV_pure hr (u := .pointer (some ⟨m.1, m.3 + (o + n * ei.size), none⟩)) ⟨m, hm, rfl⟩ ?_
      simp [Instr.indexAt, Sem.run_bind, asIntOf, hi, hx, run_underlying hu, run_sizeOf' he, h6, Addr.add_mid, Nat.add_assoc]
    · cases h5
  · rename_i len e hk
    have hu := hd.und
    rw [hk] at hu
    split at h5
    · rename_i b o
      simp only [chk_some, Option.bind_eq_some_iff, Nat.blt_eq] at h5
      obtain ⟨h6, ei, h7, h8⟩ := h5
      cases h8
      obtain ⟨_, he⟩ := E.of h7
      obtain ⟨m, hm, hx⟩ := hx
      refine goesV_pure hr (u := .pointer (some ⟨m.1, m.3 + (o + n * ei.size), none⟩)) ⟨m, hm, rfl⟩ ?_
      simp [Instr.indexAt, Sem.run_bind, asIntOf, hi, hx, run_underlying hu, run_sizeOf' he, h6, Addr.add_mid, Instr.sureAddr, Nat.add_assoc]
    · cases h5
  · cases h5

theorem index_ok (E : Env P ty held) {t : Nat} {x ix : Operand} {r : TV} (hr : Rel φ s w) (ht : TR φ T ρ) (h : indexE ty t x ix T = some r) : GoesV P φ s w (Instr.index t (ρ x) (ρ ix)) (.v r) s := by
  simp only [indexE, Option.bind_eq_some_iff] at h
  obtain ⟨ti, h1, v, h2, c, h3, n, h4, h5⟩ := h
  obtain ⟨_, hd⟩ := E.of h1
  have hx := ht.t h2
  obtain ⟨k, rfl⟩ := natOf_some h4
  have hi : ρ ix = _ := ht.c h3
  unfold indexIn at h5
  split at h5
  · rename_i len e hk
    have hu := hd.und
    rw [hk] at hu
    simp only [chk_some, Option.bind_eq_some_iff, Nat.blt_eq] at h5
    obtain ⟨l, h6, h7, ei, h8, h9⟩ := h5
    rw [aggOf_some h6] at hx
    obtain ⟨vs, hvs, hx⟩ := hx
    obtain ⟨_, he⟩ := E.of h8
    obtain ⟨u, h10, h11⟩ := part_ok he hvs h9 w
    refine goesV_pure hr h10 ?_
    have h11' : (part e vs.toArray (n * ei.size)).run P w = .ok u w := h11
    simp [Instr.index, Sem.run_bind, asIntOf, hi, hx, run_underlying hu, run_sizeOf' he, h7, h11']
  · rename_i hk
    have hu := hd.und
    rw [hk] at hu
    simp only [Option.bind_eq_some_iff] at h5
    obtain ⟨b, h6, y, h7, h8⟩ := h5
    cases h8
    rw [strOf_some h6] at hx
    have hx : ρ x = .string b := hx
    refine goesV_pure hr (u := .int .u8 (.ofNat y.toNat)) rfl ?_
    have hb : b[n]? = some y := by
      obtain ⟨hlt, h9⟩ := List.getElem?_eq_some_iff.1 h7
      have hlt' : n < b.size := by simpa using hlt
      rw [getElem?_pos b n hlt']
      congr 1
    simp [Instr.index, Sem.run_bind, asIntOf, hi, hx, run_underlying hu, hb]
  · cases h5

end
theorem beq_ne {a b : Nat} (h : Nat.beq a b = false) : a ≠ b := fun e => by subst e; simp at h
theorem not_beq {a b : Nat} (h : (not (Nat.beq a b)) = true) : a ≠ b := beq_ne (by simpa using h)

section
variable {P : Program} {ty : Nat → Option TI} {held : Nat → Bool} {φ : Mp} {s : St} {w : World} {T : TM} {ρ : Operand → Value}

/-- a bound that is given, or not -/
def BR : Option Nat → Option Value → Prop
  | none, none => True
  | some n, some v => ∃ k, v = .int k (.ofNat n)
  | _, _ => False

theorem bnd_ok (ht : TR φ T ρ) {x : Option Operand} {n : Option Nat} (h : bnd T x = some n) : BR n (x.map ρ) := by
  cases x with
  | none => simp [bnd] at h; subst h; trivial
  | some x =>
    simp only [bnd, Option.bind_eq_some_iff] at h
    obtain ⟨v, h1, m, h2, h3⟩ := h
    cases h3
    obtain ⟨k, rfl⟩ := natOf_some h2
    exact ⟨k, ht.c h1⟩

theorem run_bound {k : IntKind} {n y : Nat} (h : n ≤ y) (c : BoundsCode) : (Instr.sliceBound (.int k (n : Int)) y c).run P w = .ok n w := by
  have : (n : Int) ≤ (y : Int) := by exact_mod_cast h
  simp [Instr.sliceBound, asIntOf, this]

theorem run_bounds {lo hi mx : Option Nat} {lv hv mv : Option Value} {len cap l h m : Nat} (hl : BR lo lv) (hh : BR hi hv) (hm : BR mx mv)
    (el : orN lo 0 = l) (eh : orN hi len = h) (em : orN mx cap = m) (h1 : l ≤ h) (h2 : h ≤ m) (h3 : m ≤ cap) (ok : (someB hi || not (someB mx)) = true) :
    (Instr.sliceBounds true len cap lv hv mv).run P w = .ok (l, h, m) w := by
  cases mx with
  | none =>
    cases mv with
    | some v => exact hm.elim
    | none =>
      simp only [orN] at em; subst em
      cases hi with
      | none =>
        cases hv with
        | some v => exact hh.elim
        | none =>
          simp only [orN] at eh; subst eh
          cases lo with
          | none => cases lv with
            | some v => exact hl.elim
            | none => simp only [orN] at el; subst el; simp [Instr.sliceBounds]
          | some n => cases lv with
            | none => exact hl.elim
            | some v => obtain ⟨k, rfl⟩ := hl; simp only [orN] at el; subst el; simp [Instr.sliceBounds, Sem.run_bind, run_bound h1]
      | some n =>
        cases hv with
        | none => exact hh.elim
        | some v =>
          obtain ⟨k, rfl⟩ := hh
          simp only [orN] at eh; subst eh
          cases lo with
          | none => cases lv with
            | some v => exact hl.elim
            | none => simp only [orN] at el; subst el; simp [Instr.sliceBounds, Sem.run_bind, run_bound h2]
          | some n => cases lv with
            | none => exact hl.elim
            | some v => obtain ⟨k, rfl⟩ := hl; simp only [orN] at el; subst el; simp [Instr.sliceBounds, Sem.run_bind, run_bound h1, run_bound h2]
  | some mm =>
    cases mv with
    | none => exact hm.elim
    | some v =>
      obtain ⟨k, rfl⟩ := hm
      simp only [orN] at em; subst em
      cases hi with
      | none => simp [someB] at ok
      | some n =>
        cases hv with
        | none => exact hh.elim
        | some v =>
          obtain ⟨k', rfl⟩ := hh
          simp only [orN] at eh; subst eh
          cases lo with
          | none => cases lv with
            | some v => exact hl.elim
            | none => simp only [orN] at el; subst el; simp [Instr.sliceBounds, Sem.run_bind, run_bound h2, run_bound h3]
          | some n => cases lv with
            | none => exact hl.elim
            | some v => obtain ⟨k'', rfl⟩ := hl; simp only [orN] at el; subst el; simp [Instr.sliceBounds, Sem.run_bind, run_bound h1, run_bound h2, run_bound h3]

theorem sliceTy_some (E : Env P ty held) {t : Nat} {p : Nat × TI} (h : sliceTy ty t = some p) : P.underlying t = some (.slice p.1) ∧ ∃ i, TyOf P p.1 p.2 i := by
  simp only [sliceTy, Option.bind_eq_some_iff] at h
  obtain ⟨ti, h1, h2⟩ := h
  obtain ⟨_, hd⟩ := E.of h1
  split at h2
  · rename_i e hk
    simp only [Option.bind_eq_some_iff] at h2
    obtain ⟨ei, h3, h4⟩ := h2
    cases h4
    have hu := hd.und
    rw [hk] at hu
    exact ⟨hu, E.of h3⟩
  · cases h2

theorem know_ok (hr : Rel φ s w) {b : Nat} {bk : BK} {p : Loc} {size d know : Nat} (hb : s.cget b = some bk) (hp : φ b = some p) (h : knowE size d bk = some know) :
    know ≤ p.2 - d := by
  simp only [knowE, chk_some, Nat.blt_eq, Nat.beq_eq] at h
  obtain ⟨h1, h2, h3⟩ := h
  cases h3
  obtain ⟨p', c, h4, h5, pre, l, tl, h0, h6, rfl, h7, h8⟩ := hr.cblk b bk hb
  rw [hp] at h4; cases h4
  have h9 := h8 (by omega)
  have hl := h6.length
  have : bk.cells.length / size ≤ p.2 := by
    rw [Nat.div_le_iff_le_mul_add_pred h2]
    simp at h9
    rw [h1, Nat.mul_comm] at h9
    omega
  show bk.cells.length / size - d ≤ _
  omega

theorem slice_ok (E : Env P ty held) {t : Nat} {p : Nat × TI} {x : Operand} {v r : CV} {lo hi mx : Option Operand} (hr : Rel φ s w) (ht : TR φ T ρ) (h0 : sliceTy ty t = some p) (h1 : evc T x = some v)
    (h : sliceE T s p.2.size v lo hi mx = some r) : GoesV P φ s w (Instr.sliceAt t (ρ x) (lo.map ρ) (hi.map ρ) (mx.map ρ)) (.v (.c r)) s := by
  obtain ⟨hu, i, hi'⟩ := sliceTy_some E h0
  simp only [sliceE, Option.bind_eq_some_iff] at h
  obtain ⟨l, hl, hh, hhh, m, hm, h2⟩ := h
  have bl := bnd_ok ht hl
  have bh := bnd_ok ht hhh
  have bm := bnd_ok ht hm
  have hx := ht.c h1
  have base : ∀ (u : Value), (Instr.slice t (ρ x) (lo.map ρ) (hi.map ρ) (mx.map ρ)).run P w = .ok u w → (Instr.sliceAt t (ρ x) (lo.map ρ) (hi.map ρ) (mx.map ρ)).run P w = .ok u w := fun u hq => by
    simp [Instr.sliceAt, Sem.run_bind, run_underlying hu, hq]
  have fix : ∀ (b o n c m' : Nat) (q : Loc) (ok : Bool) (mxv : Nat), φ b = some q → ρ x = .slice (some ⟨q.1, q.3 + o, none⟩) n c → m' ≤ c →
      (orN m c = mxv) → (ok = true → (someB hh || not (someB m)) = true) → sliceFix p.2.size b o (orN l 0) (orN hh n) mxv m' ok = some r →
      GoesV P φ s w (Instr.sliceAt t (ρ x) (lo.map ρ) (hi.map ρ) (mx.map ρ)) (.v (.c r)) s := by
    intro b o n c m' q ok mxv hq hx hle hmx hok hf
    simp only [sliceFix, chk_some, Nat.ble_eq] at hf
    obtain ⟨f1, f2, f3, f4, f5⟩ := hf
    cases f5
    refine goesV_pure hr (u := .slice (some ⟨q.1, q.3 + offE mxv (orN l 0) o p.2.size, none⟩) (orN hh n - orN l 0) (mxv - orN l 0)) ⟨q, hq, rfl⟩ (base _ ?_)
    rw [hx]
    have := run_bounds (P := P) (w := w) (len := n) (cap := c) bl bh bm rfl rfl hmx f1 f2 (by omega) (hok f4)
    simp only [Instr.slice, Sem.run_bind, run_underlying hu, Result.andThen_ok, this, run_sizeOf' hi', Sem.run_pure]
    congr 2
    unfold offE
    by_cases he : mxv = orN l 0
    · simp [he]
    · rw [if_neg he]
      have : Nat.beq mxv (orN l 0) = false := by
        cases hb : Nat.beq mxv (orN l 0)
        · rfl
        · exact absurd (Nat.eq_of_beq_eq_true hb) he
      rw [this]
      simp [Addr.add_mid, Nat.add_assoc]
  unfold sliceCV at h2
  split at h2
  · rename_i b d sz
    simp only [chk_some, Nat.beq_eq, Bool.not_eq_true'] at h2
    obtain ⟨g1, g2, g3, g5⟩ := h2
    cases g5
    have hx' := hx
    obtain ⟨q, hq, a, ha, hx⟩ := hx
    refine goesV_pure hr (u := ρ x) hx' (base _ ?_)
    rw [hx]
    have hm0 : orN m (q.2 - d) = q.2 - d := by cases m with
      | none => rfl
      | some _ => cases g3
    have := run_bounds (P := P) (w := w) (len := 0) (cap := q.2 - d) bl bh bm g1 g2 hm0 (Nat.le_refl _) (Nat.zero_le _) (Nat.le_refl _) (by rw [g3]; simp)
    simp only [Instr.slice, Sem.run_bind, run_underlying hu, Result.andThen_ok, this, run_sizeOf' hi', Sem.run_pure]
    split <;> simp [Addr.add_mid]
  · simp only [chk_some, Nat.beq_eq] at h2
    obtain ⟨g1, g2, g3, g4, g5⟩ := h2
    cases g5
    have hx : ρ x = _ := hx
    refine goesV_pure hr (u := .slice none 0 0) rfl (base _ ?_)
    rw [hx]
    have := run_bounds (P := P) (w := w) (len := 0) (cap := 0) bl bh bm g1 g2 g3 (Nat.le_refl _) (Nat.le_refl _) (Nat.le_refl _) g4
    simp only [Instr.slice, Sem.run_bind, run_underlying hu, Result.andThen_ok, this, run_sizeOf' hi', Sem.run_pure]
    rfl
  · rename_i b o n c
    obtain ⟨q, hq, hx⟩ := hx
    exact fix b o n c c q _ _ hq hx (Nat.le_refl _) rfl (fun h => h) h2
  · rename_i b o n d
    obtain ⟨q, hq, hx⟩ := hx
    simp only [Option.bind_eq_some_iff] at h2
    obtain ⟨bk, hb, know, hk, h3⟩ := h2
    have hle := know_ok hr hb hq hk
    split at h3
    · rename_i mm
      exact fix b o n (q.2 - d) know q _ mm hq hx hle rfl (fun h => by simp [h]) h3
    · simp only [sliceOpn, chk_some, Nat.ble_eq] at h3
      obtain ⟨f1, f2, f4⟩ := h3
      have := run_bounds (P := P) (w := w) (len := n) (cap := q.2 - d) bl bh bm rfl rfl (m := q.2 - d) rfl f1 (by omega) (Nat.le_refl _) (by simp [someB])
      unfold tailOpn at f4
      split at f4
      · rename_i f3
        rw [Nat.blt_eq] at f3
        cases f4
        refine goesV_pure hr (u := .slice (some ⟨q.1, q.3 + (o + orN l 0 * p.2.size), none⟩) (orN hh n - orN l 0) (q.2 - (d + orN l 0))) ⟨q, hq, rfl⟩ (base _ ?_)
        rw [hx]
        simp only [Instr.slice, Sem.run_bind, run_underlying hu, Result.andThen_ok, this, run_sizeOf' hi', Sem.run_pure]
        rw [if_neg (by omega)]
        simp [Addr.add_mid, Nat.add_assoc]
        omega
      · rename_i f3
        have f3 : ¬ (orN l 0 < know) := fun h => by
          have : Nat.blt (orN l 0) know = true := by rw [Nat.blt_eq]; exact h
          rw [this] at f3; cases f3
        simp only [chk_some, Nat.beq_eq] at f4
        obtain ⟨ho, f4⟩ := f4
        cases f4
        have hn0 : orN hh n - orN l 0 = 0 := by omega
        have hcap : q.2 - d - orN l 0 = q.2 - (d + orN l 0) := by omega
        have ho : o = d * p.2.size := ho
        by_cases he : q.2 - d = orN l 0
        · refine goesV_pure hr (u := .slice (some ⟨q.1, q.3 + o, none⟩) 0 (q.2 - (d + orN l 0))) ⟨q, hq, _, fun h => ?_, rfl⟩ (base _ ?_)
          · have h : q.2 ≠ d + orN l 0 := h
            have hl0 : orN l 0 = 0 := by omega
            show q.3 + o = q.3 + (d + orN l 0) * p.2.size
            rw [ho, hl0, Nat.add_zero]
          · rw [hx]
            simp only [Instr.slice, Sem.run_bind, run_underlying hu, Result.andThen_ok, this, run_sizeOf' hi', Sem.run_pure, hn0, hcap]
            rw [if_pos he]
        · refine goesV_pure hr (u := .slice (some ⟨q.1, q.3 + (o + orN l 0 * p.2.size), none⟩) 0 (q.2 - (d + orN l 0))) ⟨q, hq, _, fun _ => ?_, rfl⟩ (base _ ?_)
          · show q.3 + (o + orN l 0 * p.2.size) = q.3 + (d + orN l 0) * p.2.size
            rw [ho, ← Nat.add_mul]
          · rw [hx]
            simp only [Instr.slice, Sem.run_bind, run_underlying hu, Result.andThen_ok, this, run_sizeOf' hi', Sem.run_pure, hn0, hcap]
            rw [if_neg he]
            simp [Addr.add_mid, Nat.add_assoc]
  · cases h2

theorem ieq_eq (a b : Int) : ieq a b = (a == b) := by
  cases a <;> cases b <;> simp [ieq]
  · rename_i a b
    cases h : Nat.beq a b
    · have := beq_ne h; symm; simp; omega
    · have := Nat.eq_of_beq_eq_true h; simp [this]
  · rename_i a b
    cases h : Nat.beq a b
    · have := beq_ne h; symm; simp; omega
    · have := Nat.eq_of_beq_eq_true h; simp [this]
theorem ile_eq (a b : Int) : ile a b = decide (a ≤ b) := by
  rw [Bool.eq_iff_iff, decide_eq_true_iff]
  cases a with
  | ofNat a => cases b with
    | ofNat b => simp only [ile, Nat.ble_eq, Int.ofNat_eq_natCast, Int.negSucc_eq]; omega
    | negSucc b => simp only [ile, Int.ofNat_eq_natCast, Int.negSucc_eq]; constructor <;> intro h <;> first | cases h | omega
  | negSucc a => cases b with
    | ofNat b => simp only [ile, true_iff, Int.ofNat_eq_natCast, Int.negSucc_eq]; omega
    | negSucc b => simp only [ile, Nat.ble_eq, Int.ofNat_eq_natCast, Int.negSucc_eq]; omega
theorem ilt_eq (a b : Int) : ilt a b = decide (a < b) := by
  rw [Bool.eq_iff_iff, decide_eq_true_iff]
  cases a with
  | ofNat a => cases b with
    | ofNat b => simp only [ilt, Nat.blt_eq, Int.ofNat_eq_natCast, Int.negSucc_eq]; omega
    | negSucc b => simp only [ilt, Int.ofNat_eq_natCast, Int.negSucc_eq]; constructor <;> intro h <;> first | cases h | omega
  | negSucc a => cases b with
    | ofNat b => simp only [ilt, true_iff, Int.ofNat_eq_natCast, Int.negSucc_eq]; omega
    | negSucc b => simp only [ilt, Nat.blt_eq, Int.ofNat_eq_natCast, Int.negSucc_eq]; omega
theorem beqKind_eq {a b : IntKind} (h : beqKind a b = true) : a = b := by
  cases a <;> cases b <;> first | rfl | (exact absurd h (by decide))
theorem kbits_eq (k : IntKind) : kbits k = k.bits := by cases k <;> rfl
theorem hi_le (k : IntKind) : hiOf k ≤ 2 ^ k.bits := by cases k <;> decide

theorem intIn_some {k : IntKind} {n : Int} {r : CV} (h : intIn k n = some r) : r = .int k n ∧ k.wrap n = n := by
  unfold intIn at h
  rw [chk_some] at h
  obtain ⟨h1, h2⟩ := h
  cases h2
  exact ⟨rfl, wrap_of_inR h1⟩

theorem bits_ok {op : BinOp} {f : Nat → Nat → Nat} {k : IntKind} {a b : Int} {r : CV} (h : bitOp f k a b = some r)
    (hf : ∀ m n : Nat, m < 2 ^ k.bits → n < 2 ^ k.bits → Op.intBits op k (.ofNat m) (.ofNat n) = pure (.int k (k.wrap (f m n : Nat)))) : ∃ u, VC φ r u ∧ (Op.intBits op k a b).run P w = .ok u w := by
  unfold bitOp at h
  split at h
  · rename_i m n
    simp only [chk_some, Nat.blt_eq] at h
    obtain ⟨h1, h2, h3⟩ := h
    obtain ⟨rfl, h4⟩ := intIn_some h3
    have := hi_le k
    refine ⟨.int k (f m n : Nat), rfl, ?_⟩
    rw [hf m n (by omega) (by omega)]
    have h4' : k.wrap ((f m n : Nat) : Int) = ((f m n : Nat) : Int) := h4
    simp [h4']
  · cases h

theorem ofInt_nat (n m : Nat) : BitVec.ofInt n (Int.ofNat m) = BitVec.ofNat n m := by
  apply BitVec.eq_of_toNat_eq
  simp [BitVec.toNat_ofInt]

theorem int_ok {op : BinOp} {k : IntKind} {a b : Int} {r : CV} (t : Nat) (h : intOp op k a b = some r) : ∃ u, VC φ r u ∧ (binOp op t (.int k a) (.int k b)).run P w = .ok u w := by
  unfold intOp at h
  split at h
  case h_1 => obtain ⟨rfl, h1⟩ := intIn_some h; exact ⟨_, rfl, by show _ = Result.ok (Value.int k (a + b)) w; have : k.wrap (a + b) = a + b := h1; simp [binOp, Op.intArith, this]⟩
  case h_2 => obtain ⟨rfl, h1⟩ := intIn_some h; exact ⟨_, rfl, by show _ = Result.ok (Value.int k (a - b)) w; have : k.wrap (a - b) = a - b := h1; simp [binOp, Op.intArith, this]⟩
  case h_3 => obtain ⟨rfl, h1⟩ := intIn_some h; exact ⟨_, rfl, by show _ = Result.ok (Value.int k (a * b)) w; have : k.wrap (a * b) = a * b := h1; simp [binOp, Op.intArith, this]⟩
  case h_4 => cases h; exact ⟨.bool _, rfl, by simp [binOp, Op.intCmp, ieq_eq]⟩
  case h_5 => cases h; exact ⟨.bool _, rfl, by simp [binOp, Op.intCmp, ieq_eq, bne]⟩
  case h_6 => cases h; exact ⟨.bool _, rfl, by simp [binOp, Op.intCmp, ilt_eq]⟩
  case h_7 => cases h; exact ⟨.bool _, rfl, by simp [binOp, Op.intCmp, ile_eq]⟩
  case h_8 => cases h; exact ⟨.bool _, rfl, by simp [binOp, Op.intCmp, ilt_eq]⟩
  case h_9 => cases h; exact ⟨.bool _, rfl, by simp [binOp, Op.intCmp, ile_eq]⟩
  case h_10 =>
    simp only [divOp, chk_some] at h
    obtain ⟨h1, h2⟩ := h
    obtain ⟨rfl, h3⟩ := intIn_some h2
    have hb : b ≠ 0 := by rw [ieq_eq] at h1; simpa using h1
    exact ⟨_, rfl, by show _ = Result.ok (Value.int k (a.tdiv b)) w; simp [binOp, Op.intDiv, hb, h3]⟩
  case h_11 =>
    simp only [divOp, chk_some] at h
    obtain ⟨h1, h2⟩ := h
    cases h2
    have hb : b ≠ 0 := by rw [ieq_eq] at h1; simpa using h1
    exact ⟨_, rfl, by show _ = Result.ok (Value.int k (a.tmod b)) w; simp [binOp, Op.intDiv, hb]⟩
  case h_12 =>
    obtain ⟨u, h1, h2⟩ := bits_ok (P := P) (w := w) (φ := φ) (op := .and) h (fun m n hm hn => by
      simp only [Op.intBits, ofInt_nat, BitVec.toNat_and, BitVec.toNat_ofNat, Nat.mod_eq_of_lt hm, Nat.mod_eq_of_lt hn]; rfl)
    exact ⟨u, h1, by simpa [binOp] using h2⟩
  case h_13 =>
    obtain ⟨u, h1, h2⟩ := bits_ok (P := P) (w := w) (φ := φ) (op := .or) h (fun m n hm hn => by
      simp only [Op.intBits, ofInt_nat, BitVec.toNat_or, BitVec.toNat_ofNat, Nat.mod_eq_of_lt hm, Nat.mod_eq_of_lt hn]; rfl)
    exact ⟨u, h1, by simpa [binOp] using h2⟩
  case h_14 =>
    obtain ⟨u, h1, h2⟩ := bits_ok (P := P) (w := w) (φ := φ) (op := .xor) h (fun m n hm hn => by
      simp only [Op.intBits, ofInt_nat, BitVec.toNat_xor, BitVec.toNat_ofNat, Nat.mod_eq_of_lt hm, Nat.mod_eq_of_lt hn]; rfl)
    exact ⟨u, h1, by simpa [binOp] using h2⟩
  case h_15 =>
    obtain ⟨u, h1, h2⟩ := bits_ok (P := P) (w := w) (φ := φ) (op := .andNot) h (fun m n hm hn => by
      have e : (BitVec.ofNat k.bits m &&& ~~~BitVec.ofNat k.bits n) = BitVec.ofNat k.bits m ^^^ (BitVec.ofNat k.bits m &&& BitVec.ofNat k.bits n) := by
        apply BitVec.eq_of_getElem_eq
        intro i hi
        simp only [BitVec.getElem_and, BitVec.getElem_not, BitVec.getElem_xor]
        cases (BitVec.ofNat k.bits m)[i] <;> cases (BitVec.ofNat k.bits n)[i] <;> rfl
      simp only [Op.intBits, ofInt_nat, e, BitVec.toNat_xor, BitVec.toNat_and, BitVec.toNat_ofNat, Nat.mod_eq_of_lt hm, Nat.mod_eq_of_lt hn]; rfl)
    exact ⟨u, h1, by simpa [binOp] using h2⟩
  case h_16 => cases h

theorem md_ok {op : BinOp} {k : Nat} {r : Int} {e : Bool} {k' : IntKind} {n b : Int} {v : CV} (t : Nat) (hm : MdOk k r e n) (h : binMd op k r e k' b = some v) :
    ∃ u, VC φ v u ∧ (binOp op t (.int .i64 n) (.int k' b)).run P w = .ok u w := by
  unfold binMd at h
  split at h
  · rename_i m
    split at h
    · rw [chk_some] at h
      obtain ⟨h1, h2⟩ := h
      cases h2
      have := beqKind_eq h1; subst this
      exact ⟨_, ⟨IntKind.i64.wrap (n + Int.ofNat m), rfl, by show Int.tmod _ (Int.ofNat 1) = 0; exact Int.tmod_one _⟩, by simp [binOp, Op.intArith]⟩
    · simp only [chk_some, Nat.blt_eq] at h
      obtain ⟨h0, h1, h2, h3, h4⟩ := h
      cases h4
      have := beqKind_eq h1; subst this
      have h2 := Nat.eq_of_beq_eq_true h2
      subst h2
      subst h0
      have hm : Int.tmod n (Int.ofNat m) = r := hm
      refine ⟨_, rfl, ?_⟩
      have hb : (Int.ofNat m) ≠ 0 := by simp only [Int.ofNat_eq_natCast]; omega
      have hb' : (m : Int) ≠ 0 := hb
      rw [← hm]
      show _ = Result.ok (Value.int .i64 (n.tmod (Int.ofNat m))) w
      have hm0 : m ≠ 0 := by omega
      simp [binOp, Op.intDiv, hm0]
    · cases h
  · cases h

theorem shlIn_some {k : IntKind} {r : Int} {v : CV} (h : shlIn k r = some v) : v = .int k (k.wrap r) := by
  unfold shlIn at h
  cases hR : inR k r with
  | true => rw [hR] at h; cases h; rw [wrap_of_inR hR]
  | false =>
    rw [hR] at h
    cases k <;> cases r <;> first | (cases h; done) | skip
    rename_i m
    cases h
    rfl

theorem sh_ok {op : BinOp} {k k' : IntKind} {a b : Int} {r : CV} (t : Nat) (hop : op = .shl ∨ op = .shr) (h : shOp op k a b = some r) :
    ∃ u, VC φ r u ∧ (binOp op t (.int k a) (.int k' b)).run P w = .ok u w := by
  unfold shOp at h
  split at h
  · rename_i n
    simp only [chk_some, Nat.blt_eq, kbits_eq] at h
    obtain ⟨h1, h2⟩ := h
    have hmin : min n k.bits = n := Nat.min_eq_left (Nat.le_of_lt h1)
    rcases hop with rfl | rfl
    · have key : ∀ z : Int, k.wrap (a * ((2 ^ n : Nat) : Int)) = z → (binOp .shl t (.int k a) (.int k' (Int.ofNat n))).run P w = .ok (.int k z) w := by
        intro z h3'
        have hneg : ¬ ((n : Int) < 0) := by omega
        simp only [binOp, Op.shift, Int.ofNat_eq_natCast, hneg, if_false, Int.toNat_natCast, hmin]
        rw [show ((2 : Int) ^ n) = ((2 ^ n : Nat) : Int) by simp, h3']
        rfl
      have h2 : shlIn k (Int.mul a (Int.ofNat (Nat.pow 2 n))) = some r := h2
      rw [shlIn_some h2]
      exact ⟨_, rfl, key _ rfl⟩
    · cases h2
      refine ⟨_, rfl, ?_⟩
      show _ = Result.ok (Value.int k (a.fdiv ((2 ^ n : Nat) : Int))) w
      have hneg : ¬ ((n : Int) < 0) := by omega
      simp only [binOp, Op.shift, Int.ofNat_eq_natCast, hneg, if_false, Int.toNat_natCast, hmin]
      rw [show ((2 : Int) ^ n) = ((2 ^ n : Nat) : Int) by simp]
      rfl
  · cases h

theorem un_ok {op : UnOp} {c r : CV} {u : Value} (hr : Rel φ s w) (hv : VC φ c u) (h : unE op c = some r) : GoesV P φ s w (Op.unary op u) (.v (.c r)) s := by
  unfold unE at h
  split at h
  · split at h
    · cases h
      have hv : u = _ := hv
      subst hv
      exact goesV_pure hr (u := .bool _) rfl rfl
    · cases h
  · split at h
    · have hv : u = _ := hv
      subst hv
      rename_i k n _
      unfold intIn at h
      rw [chk_some] at h
      obtain ⟨h1, h2⟩ := h
      cases h2
      refine goesV_pure hr (u := .int k (Int.sub 0 n)) rfl ?_
      have hw := wrap_of_inR h1
      have e : (0 : Int) - n = Int.sub 0 n := rfl
      simp [Op.unary, Op.intArith, -Int.zero_sub, e, hw]
    · have hv : u = _ := hv
      subst hv
      unfold notU at h
      split at h
      · rename_i n
        obtain ⟨u, h1, h2⟩ := bits_ok (P := P) (w := w) (φ := φ) (op := .xor) h (fun m n hm hn => by
          simp only [Op.intBits, ofInt_nat, BitVec.toNat_xor, BitVec.toNat_ofNat, Nat.mod_eq_of_lt hm, Nat.mod_eq_of_lt hn]; rfl)
        refine goesV_pure hr h1 ?_
        have e : (IntKind.max .u64 : Int) = Int.ofNat 18446744073709551615 := by decide
        simp only [Op.unary, IntKind.signed, Bool.false_eq_true, if_false, e]
        exact h2
      · cases h
    · cases h
  · cases h

end
section
variable {P : Program} {ty : Nat → Option TI} {held : Nat → Bool} {φ : Mp} {s : St} {w : World} {T : TM} {ρ : Operand → Value}

theorem equal_ok {d : TypeDesc} {t : Nat} {cst : Bool} {c c' : CV} {u u' : Value} {p : Nat × Bool} (hd : P.underlying t = some d) (h1 : VC φ c u) (h2 : VC φ c' u')
    (h : cmpC cst c c' = some p) (hk : dno d = p.1) : (Op.equal t u u').run P w = .ok p.2 w := by
  have e : Op.maxDepth = 9999 + 1 := rfl
  unfold Op.equal
  rw [e]
  unfold Op.equalIn
  rw [Sem.run_bind, run_underlying hd]
  unfold cmpC at h
  split at h
  · cases h
    have h1 : u = _ := h1; have h2 : u' = _ := h2
    subst h1; subst h2
    cases d <;> simp [dno] at hk
    rename_i a b
    cases a <;> cases b <;> simp [beqB]
  · cases h
    have h1 : u = _ := h1; have h2 : u' = _ := h2
    subst h1; subst h2
    cases d <;> simp [dno] at hk
    simp
  · cases h
    obtain ⟨q, _, h1⟩ := h1; have h2 : u' = _ := h2
    subst h1; subst h2
    cases d <;> simp [dno] at hk
    simp
  · cases h
    have h1 : u = _ := h1; obtain ⟨q, _, h2⟩ := h2
    subst h1; subst h2
    cases d <;> simp [dno] at hk
    simp
  · cases h
    have h1 : u = _ := h1; have h2 : u' = _ := h2
    subst h1; subst h2
    cases d <;> simp [dno] at hk
    simp
  · rename_i b o n cp
    cases h
    have h2 : u' = _ := h2
    cases cp <;> (obtain ⟨q, _, h1⟩ := h1; subst h1; subst h2; cases d <;> simp [dno] at hk; simp)
  · rename_i b o n cp
    cases h
    have h1 : u = _ := h1
    cases cp <;> (obtain ⟨q, _, h2⟩ := h2; subst h1; subst h2; cases d <;> simp [dno] at hk; simp)
  · cases h
    obtain ⟨q, _, a, _, h1⟩ := h1; have h2 : u' = _ := h2
    subst h1; subst h2
    cases d <;> simp [dno] at hk
    simp
  · cases h
    have h1 : u = _ := h1; obtain ⟨q, _, a, _, h2⟩ := h2
    subst h1; subst h2
    cases d <;> simp [dno] at hk
    simp
  · split at h
    · cases h
      have h1 : u = _ := h1; have h2 : u' = _ := h2
      subst h1; subst h2
      cases d <;> simp [dno] at hk
      simp
    · cases h
  · cases h
    obtain ⟨q, _, h1⟩ := h1; have h2 : u' = _ := h2
    subst h1; subst h2
    cases d <;> simp [dno] at hk
    simp
  · cases h
    have h1 : u = _ := h1; obtain ⟨q, _, h2⟩ := h2
    subst h1; subst h2
    cases d <;> simp [dno] at hk
    simp
  · cases h
    have h1 : u = _ := h1; have h2 : u' = _ := h2
    subst h1; subst h2
    cases d <;> simp [dno] at hk
    simp
  · cases h
    obtain ⟨q, _, h1⟩ := h1; have h2 : u' = _ := h2
    subst h1; subst h2
    cases d <;> simp [dno] at hk
    simp
  · cases h

/-- numbers in a row, compared field by field -/
theorem eqFields_ok (E : Env P ty held) {d : Nat} {xs ys : List Value} : ∀ {fs : List Field} {n : Nat} {l l' : List CV} {r : Bool}, intFields ty n fs = true → l.length = fs.length →
    VL φ l (xs.drop n) → VL φ l' (ys.drop n) → eqInts l l' = some r → (Op.eqFields (d + 1) xs.toArray ys.toArray fs).run P w = .ok r w
  | [], n, l, l', r, _, hl, _, _, h => by
    cases l with
    | cons _ _ => simp at hl
    | nil => cases l' with
      | cons _ _ => simp [eqInts] at h
      | nil => simp [eqInts] at h; subst h; rfl
  | f :: fs, n, l, l', r, hf, hl, h1, h2, h => by
    unfold intFields at hf
    simp only [Bool.and_eq_true, Nat.beq_eq] at hf
    obtain ⟨⟨g1, g2⟩, g3⟩ := hf
    split at g3
    · rename_i ti hti
      simp only [Bool.and_eq_true, Nat.beq_eq] at g3
      obtain ⟨⟨g4, g5⟩, g6⟩ := g3
      obtain ⟨i, hi⟩ := E.of hti
      split at g4
      · rename_i k hk
        have hu := hi.und
        rw [hk] at hu
        have hag : ti.agg = false := by rw [hi.agg, hk]; rfl
        cases l with
        | nil => simp at hl
        | cons c l => cases l' with
          | nil => simp [eqInts] at h
          | cons c' l' =>
            unfold eqInts at h
            split at h
            · rename_i heq _; cases heq
            · rename_i k1 a l1 k2 b l2 e1 e2
              cases e1; cases e2
              rw [chk_some] at h
              obtain ⟨g7, h⟩ := h
              have := beqKind_eq g7; subst this
              cases hx : xs.drop n with
              | nil => rw [hx] at h1; exact h1.elim
              | cons x xr => cases hy : ys.drop n with
                | nil => rw [hy] at h2; exact h2.elim
                | cons y yr =>
                  rw [hx] at h1; rw [hy] at h2
                  have hx1 : x = _ := h1.1
                  have hy1 : y = _ := h2.1
                  have px : xs[n]? = some x := by rw [← List.head?_drop, hx]; rfl
                  have py : ys[n]? = some y := by rw [← List.head?_drop, hy]; rfl
                  have dx : xs.drop (n + 1) = xr := by rw [← List.tail_drop, hx]; rfl
                  have dy : ys.drop (n + 1) = yr := by rw [← List.tail_drop, hy]; rfl
                  have hname : f.name ≠ "_" := by simpa using g2
                  have partx : (part f.type xs.toArray f.offset).run P w = .ok x w := by
                    unfold part; rw [Sem.run_bind, run_isAgg' hi]; simp [hag, g1, px]
                  have party : (part f.type ys.toArray f.offset).run P w = .ok y w := by
                    unfold part; rw [Sem.run_bind, run_isAgg' hi]; simp [hag, g1, py]
                  simp only [Op.eqFields, hname, ne_eq, not_false_eq_true, if_true, Sem.run_bind, partx, party, Result.andThen_ok]
                  rw [hx1, hy1, run_equalIn_int w d f.type _ _ a b hu]
                  rw [ieq_eq] at h
                  simp only [Result.andThen_ok]
                  cases hab : (a == b)
                  · rw [hab] at h
                    simp only at h; cases h
                    simp
                  · rw [hab] at h
                    simp only [Bool.not_true, Bool.false_eq_true, if_false]
                    exact eqFields_ok E g6 (by simpa using hl) (by rw [dx]; exact h1.2) (by rw [dy]; exact h2.2) h
            · cases h
      · cases g4
    · cases g3

theorem eqInts_split : ∀ (m : Nat) {l l' : List CV} {r : Bool}, eqInts l l' = some r → m ≤ l.length → ∃ r1, eqInts (l.take m) (l'.take m) = some r1 ∧ ((r1 = false ∧ r = false) ∨ (r1 = true ∧ eqInts (l.drop m) (l'.drop m) = some r))
  | 0, l, l', r, h, _ => ⟨true, by simp [eqInts], .inr ⟨rfl, by simpa using h⟩⟩
  | m + 1, [], l', r, h, hm => by simp at hm
  | m + 1, c :: l, [], r, h, hm => by cases c <;> simp [eqInts] at h
  | m + 1, c :: l, c' :: l', r, h, hm => by
    unfold eqInts at h
    split at h
    · rename_i e _; cases e
    · rename_i k1 a l1 k2 b l2 e1 e2
      cases e1; cases e2
      rw [chk_some] at h
      obtain ⟨g7, h⟩ := h
      simp only [List.take_succ_cons, List.drop_succ_cons, eqInts, g7, chk]
      split at h
      · rename_i he
        obtain ⟨r1, h1, h2⟩ := eqInts_split m h (by simpa using hm)
        exact ⟨r1, h1, h2⟩
      · rename_i he
        cases h
        exact ⟨false, rfl, .inl ⟨rfl, rfl⟩⟩
    · cases h

theorem structOf_some {d : TypeDesc} {l : List Field} (h : structOf d = some l) : ∃ fs, d = .struct fs ∧ l = fs.toList := by
  unfold structOf at h; split at h <;> cases h; exact ⟨_, rfl, rfl⟩
theorem isIntD_some {d : TypeDesc} (h : isIntD d = true) : ∃ k, d = .int k := by
  unfold isIntD at h; split at h <;> first | exact ⟨_, rfl⟩ | cases h

theorem fields2_le {held : Nat → Bool} : ∀ {fs : List Field} {n N : Nat}, fields2 ty held n fs = some N → n ≤ N
  | [], n, N, h => by simp [fields2] at h; omega
  | f :: fs, n, N, h => by
    simp only [fields2, chk_some, Option.bind_eq_some_iff] at h
    obtain ⟨_, k, _, h3⟩ := h
    have := fields2_le h3
    have e : n.add k = n + k := rfl
    omega

theorem fields2_ok (E : Env P ty held) {d : Nat} {xs ys : List Value} : ∀ {fs : List Field} {n N : Nat} {l l' : List CV} {r : Bool}, fields2 ty held n fs = some N → n + l.length = N →
    VL φ l (xs.drop n) → VL φ l' (ys.drop n) → eqInts l l' = some r → (Op.eqFields (d + 2) xs.toArray ys.toArray fs).run P w = .ok r w
  | [], n, N, l, l', r, hf, hl, _, _, h => by
    simp only [fields2, Option.some.injEq] at hf
    cases l with
    | cons _ _ => simp at hl; omega
    | nil => cases l' with
      | cons _ _ => simp [eqInts] at h
      | nil => simp [eqInts] at h; subst h; rfl
  | f :: fs, n, N, l, l', r, hf, hl, h1, h2, h => by
    simp only [fields2, chk_some, Option.bind_eq_some_iff, Bool.and_eq_true, Nat.beq_eq] at hf
    obtain ⟨⟨g1, g2⟩, k, g3, g4⟩ := hf
    have hname : f.name ≠ "_" := by simpa using g2
    have hle := fields2_le g4
    have ek : n.add k = n + k := rfl
    rw [ek] at hle g4
    have hlk : k ≤ l.length := by omega
    obtain ⟨r1, e1, e2⟩ := eqInts_split k h hlk
    simp only [field2, Option.bind_eq_some_iff] at g3
    obtain ⟨ti, hti, g5⟩ := g3
    obtain ⟨i, hi⟩ := E.of hti
    have hd : ∀ (zs : List Value), (zs.drop n).drop k = zs.drop (n + k) := fun zs => by rw [List.drop_drop]
    have rest : eqInts (l.drop k) (l'.drop k) = some r → (Op.eqFields (d + 2) xs.toArray ys.toArray fs).run P w = .ok r w := fun hh =>
      fields2_ok E g4 (by rw [List.length_drop]; omega) (by rw [← hd]; exact h1.drop k) (by rw [← hd]; exact h2.drop k) hh
    -- the field itself
    suffices ∃ x y, (part f.type xs.toArray f.offset).run P w = .ok x w ∧ (part f.type ys.toArray f.offset).run P w = .ok y w ∧ (Op.equalIn (d + 2) f.type x y).run P w = .ok r1 w by
      obtain ⟨x, y, k1, k2, k3⟩ := this
      simp only [Op.eqFields, hname, ne_eq, not_false_eq_true, if_true, Sem.run_bind, k1, k2, k3, Result.andThen_ok]
      rcases e2 with ⟨rfl, rfl⟩ | ⟨rfl, e2⟩
      · simp
      · simp only [Bool.not_true, Bool.false_eq_true, if_false]
        exact rest e2
    split at g5
    · rename_i hint
      simp only [chk_some, Nat.beq_eq] at g5
      obtain ⟨g6, g7⟩ := g5
      cases g7
      obtain ⟨kd, hk⟩ := isIntD_some hint
      have hu := hi.und
      rw [hk] at hu
      have hag : ti.agg = false := by rw [hi.agg, hk]; rfl
      cases l with
      | nil => simp at hlk
      | cons c l => cases l' with
        | nil => simp [eqInts] at h
        | cons c' l' =>
          cases hx : xs.drop n with
          | nil => rw [hx] at h1; exact h1.elim
          | cons x xr => cases hy : ys.drop n with
            | nil => rw [hy] at h2; exact h2.elim
            | cons y yr =>
              rw [hx] at h1; rw [hy] at h2
              have px : xs[n]? = some x := by rw [← List.head?_drop, hx]; rfl
              have py : ys[n]? = some y := by rw [← List.head?_drop, hy]; rfl
              refine ⟨x, y, ?_, ?_, ?_⟩
              · unfold part; rw [Sem.run_bind, run_isAgg' hi]; simp [hag, g1, px]
              · unfold part; rw [Sem.run_bind, run_isAgg' hi]; simp [hag, g1, py]
              · simp only [List.take_succ_cons, List.take_zero] at e1
                unfold eqInts at e1
                split at e1
                · rename_i q _; cases q
                · rename_i k1 a l1 k2 b l2 q1 q2
                  cases q1; cases q2
                  rw [chk_some] at e1
                  obtain ⟨g8, e1⟩ := e1
                  have := beqKind_eq g8; subst this
                  have hx1 : x = _ := h1.1
                  have hy1 : y = _ := h2.1
                  rw [hx1, hy1, run_equalIn_int w (d + 1) f.type _ _ a b hu, ← ieq_eq]
                  cases hab : ieq a b <;> rw [hab] at e1 <;> simp [eqInts] at e1 <;> rw [e1]
                · cases e1
    · simp only [chk_some, Option.bind_eq_some_iff, Nat.beq_eq, Bool.not_eq_true'] at g5
      obtain ⟨fs', g6, g7, g8, g9, g10⟩ := g5
      cases g10
      obtain ⟨fa, hfa, rfl⟩ := structOf_some g6
      have hu := hi.und
      rw [hfa] at hu
      have hag : ti.agg = true := by rw [hi.agg, hfa]; rfl
      have hfo : P.fieldsOf f.type = fa := by simp [Program.fieldsOf, hu]
      refine ⟨.agg ((xs.drop n).take ti.size).toArray, .agg ((ys.drop n).take ti.size).toArray, ?_, ?_, ?_⟩
      · unfold part; rw [Sem.run_bind, run_isAgg' hi]
        simp [hag, Sem.run_bind, run_sizeOf' hi, List.extract_toArray, List.extract_eq_take_drop, g1]
      · unfold part; rw [Sem.run_bind, run_isAgg' hi]
        simp [hag, Sem.run_bind, run_sizeOf' hi, List.extract_toArray, List.extract_eq_take_drop, g1]
      · rw [run_equalIn_struct w _ f.type _ _ (by rw [hfo]; exact hu) (by rw [← E.held]; exact g7), hfo]
        rw [g9] 
        exact eqFields_ok E (n := 0) g8 (by rw [List.length_take]; omega) (by simpa using h1.take fa.toList.length) (by simpa using h2.take fa.toList.length) e1

theorem guardType_int (E : Env P ty held) {d : Nat} : ∀ {fs : List Field} {n : Nat}, intFields ty n fs = true → fs.any (fun f => f.name != "_" && P.eqGuardType (d + 1) f.type) = false
  | [], _, _ => rfl
  | f :: fs, n, hf => by
    unfold intFields at hf
    simp only [Bool.and_eq_true, Nat.beq_eq] at hf
    obtain ⟨⟨g1, g2⟩, g3⟩ := hf
    split at g3
    · rename_i ti hti
      simp only [Bool.and_eq_true, Nat.beq_eq] at g3
      obtain ⟨⟨g4, g5⟩, g6⟩ := g3
      obtain ⟨i, hi⟩ := E.of hti
      split at g4
      · rename_i k hk
        have hu := hi.und
        rw [hk] at hu
        simp only [List.any_cons, Bool.or_eq_false_iff]
        refine ⟨?_, guardType_int E g6⟩
        simp [Program.eqGuardType, hu]
      · cases g4
    · cases g3

theorem guardType_2 (E : Env P ty held) {d : Nat} : ∀ {fs : List Field} {n N : Nat}, fields2 ty held n fs = some N → fs.any (fun f => f.name != "_" && P.eqGuardType (d + 2) f.type) = false
  | [], _, _, _ => rfl
  | f :: fs, n, N, hf => by
    simp only [fields2, chk_some, Option.bind_eq_some_iff] at hf
    obtain ⟨_, k, g3, g4⟩ := hf
    simp only [List.any_cons, Bool.or_eq_false_iff]
    refine ⟨?_, guardType_2 E g4⟩
    simp only [field2, Option.bind_eq_some_iff] at g3
    obtain ⟨ti, hti, g5⟩ := g3
    obtain ⟨i, hi⟩ := E.of hti
    have hu := hi.und
    split at g5
    · rename_i hint
      obtain ⟨kd, hk⟩ := isIntD_some hint
      rw [hk] at hu
      simp [Program.eqGuardType, hu]
    · simp only [chk_some, Option.bind_eq_some_iff] at g5
      obtain ⟨fs', g6, g7, g8, g9, g10⟩ := g5
      obtain ⟨fa, hfa, rfl⟩ := structOf_some g6
      rw [hfa] at hu
      have : P.eqGuardType (d + 2) f.type = false := by
        unfold Program.eqGuardType
        simp only [hu]
        rw [← Array.any_toList]
        exact guardType_int E g8
      rw [this, Bool.and_false]

/-- the guard of a comparison lets these by -/
theorem guard_eql {t : Nat} {x y : Operand} {c c' : CV} {u u' : Value} (h1 : VC φ c u) (h2 : VC φ c' u') (hn : c = .nili → c' = .nili → (isConst x || isConst y) = true) :
    (eqGuard .eql t x y u u').run P w = .ok () w := by
  unfold eqGuard
  cases c with
  | nili =>
    have h1 : u = _ := h1
    subst h1
    cases c' with
    | nili =>
      have h2 : u' = _ := h2
      subst h2
      have := hn rfl rfl
      cases x <;> cases y <;> simp_all [isConst]
    | slice b o n cp => cases cp <;> (obtain ⟨q, _, h2⟩ := h2; subst h2; simp)
    | ptr b o => obtain ⟨q, _, h2⟩ := h2; subst h2; simp
    | iface t b o => obtain ⟨q, _, h2⟩ := h2; subst h2; simp
    | map b => obtain ⟨q, _, h2⟩ := h2; subst h2; simp
    | stail b d sz => obtain ⟨q, _, a, _, h2⟩ := h2; subst h2; simp
    | md k r e => obtain ⟨q, h2, _⟩ := h2; subst h2; simp
    | func f l => obtain ⟨q, _, h2⟩ := h2; subst h2; simp
    | _ => (have h2' : u' = _ := h2; subst h2'; simp)
  | slice b o n cp => cases cp <;> (obtain ⟨q, _, h1⟩ := h1; subst h1; simp)
  | ptr b o => obtain ⟨q, _, h1⟩ := h1; subst h1; simp
  | iface t b o => obtain ⟨q, _, h1⟩ := h1; subst h1; simp
  | map b => obtain ⟨q, _, h1⟩ := h1; subst h1; simp
  | stail b d sz => obtain ⟨q, _, a, _, h1⟩ := h1; subst h1; simp
  | md k r e => obtain ⟨q, h1, _⟩ := h1; subst h1; simp
  | func f l => obtain ⟨q, _, h1⟩ := h1; subst h1; simp
  | _ => (have h1' : u = _ := h1; subst h1'; simp)

theorem guard_ok {op : BinOp} {t : Nat} {x y : Operand} {c c' : CV} {u u' : Value} (h1 : VC φ c u) (h2 : VC φ c' u') (hn : c = .nili → c' = .nili → (isConst x || isConst y) = true) :
    (eqGuard op t x y u u').run P w = .ok () w := by
  cases op
  case eql => exact guard_eql h1 h2 hn
  case neq => exact guard_eql h1 h2 hn
  all_goals rfl

theorem eqOp_ok {op : BinOp} {t : Nat} {u u' : Value} {r : Bool} {v : CV} (h : eqOp op r = some v) (he : (Op.equal t u u').run P w = .ok r w)
    (h1 : binOp .eql t u u' = (do pure (.bool (← Op.equal t u u')))) (h2 : binOp .neq t u u' = (do pure (.bool (!(← Op.equal t u u'))))) : ∃ x, VC φ v x ∧ (binOp op t u u').run P w = .ok x w := by
  unfold eqOp at h
  split at h
  · cases h; exact ⟨_, rfl, by rw [h1, Sem.run_bind, he]; rfl⟩
  · cases h; exact ⟨_, rfl, by rw [h2, Sem.run_bind, he]; rfl⟩
  · cases h

theorem binC_ok (E : Env P ty held) {op : BinOp} {t : Nat} {x y : Operand} {c c' : CV} {u u' : Value} {v : CV} (h1 : VC φ c u) (h2 : VC φ c' u') (h : binC ty op t (isConst x || isConst y) c c' = some v) :
    ∃ z, VC φ v z ∧ (do eqGuard op t x y u u'; binOp op t u u').run P w = .ok z w := by
  simp only [binC, Option.bind_eq_some_iff, chk_some, Nat.beq_eq] at h
  obtain ⟨p, g1, ti, g2, g3, g4⟩ := h
  obtain ⟨i, hi⟩ := E.of g2
  have he := equal_ok (w := w) hi.und h1 h2 g1 g3
  have hg : (eqGuard op t x y u u').run P w = .ok () w := guard_ok h1 h2 (fun e1 e2 => by
    subst e1; subst e2
    unfold cmpC at g1
    simp only at g1
    split at g1
    · assumption
    · cases g1)
  rw [Sem.run_bind, hg]
  simp only [Result.andThen_ok]
  refine eqOp_ok g4 he ?_ ?_ <;>
  · unfold cmpC at g1
    split at g1 <;> first
      | (cases g1; done)
      | (have h1 : u = _ := h1; have h2 : u' = _ := h2; subst h1; subst h2; rfl)
      | (obtain ⟨q, _, h1⟩ := h1; have h2 : u' = _ := h2; subst h1; subst h2; rfl)
      | (have h1 : u = _ := h1; obtain ⟨q, _, h2⟩ := h2; subst h1; subst h2; rfl)
      | (obtain ⟨q, _, a, _, h1⟩ := h1; have h2 : u' = _ := h2; subst h1; subst h2; rfl)
      | (have h1 : u = _ := h1; obtain ⟨q, _, a, _, h2⟩ := h2; subst h1; subst h2; rfl)
      | (rename_i b o n cp; have h2 : u' = _ := h2; cases cp <;> (obtain ⟨q, _, h1⟩ := h1; subst h1; subst h2; rfl))
      | (rename_i b o n cp; have h1 : u = _ := h1; cases cp <;> (obtain ⟨q, _, h2⟩ := h2; subst h1; subst h2; rfl))

theorem beqBy_eq : ∀ (a b : List UInt8), beqBy a b = (a == b)
  | [], [] => rfl
  | [], _ :: _ => rfl
  | _ :: _, [] => rfl
  | a :: l, b :: l' => by
    simp only [beqBy, beqBy_eq l l', List.cons_beq_cons]
    congr 1
    rw [Bool.eq_iff_iff, Nat.beq_eq, beq_iff_eq]
    exact ⟨UInt8.toNat.inj, fun e => by rw [e]⟩
theorem strs_ok {op : BinOp} {a b : ByteArray} {v : CV} (t : Nat) (h : binS op a b = some v) : ∃ z, VC φ v z ∧ (binOp op t (.string a) (.string b)).run P w = .ok z w := by
  have e1 : a.toList = a.data.toList := by simp [ByteArray.toList_eq]
  have e2 : b.toList = b.data.toList := by simp [ByteArray.toList_eq]
  unfold binS at h
  split at h
  · rw [chk_some, Nat.blt_eq] at h
    obtain ⟨h1, h2⟩ := h
    cases h2
    refine ⟨.string (joinB a b), rfl, ?_⟩
    have h1 : a.data.toList.length + b.data.toList.length < 1000000 := h1
    have hs : ¬ (((a.size + b.size : Nat) : Int) > IntKind.i64.max) := by
      have e3 : IntKind.i64.max = 9223372036854775807 := by decide
      have e4 : a.size = a.data.toList.length := by rw [Array.length_toList]; rfl
      have e5 : b.size = b.data.toList.length := by rw [Array.length_toList]; rfl
      rw [e3, e4, e5]; omega
    have e6 : joinB a b = a ++ b := by
      apply Go.WideShapes.bytes_inj
      simp [joinB]
    rw [e6]
    simp only [binOp, Op.stringOp, if_neg hs]
    rfl
  · cases h
    exact ⟨.bool _, rfl, by simp only [binOp, Op.stringOp, e1, e2, beqBy_eq]; rfl⟩
  · cases h
    exact ⟨.bool _, rfl, by simp only [binOp, Op.stringOp, e1, e2, beqBy_eq]; rfl⟩
  · cases h

theorem bin_ok (E : Env P ty held) {op : BinOp} {t : Nat} {x y : Operand} {c c' : TV} {u u' : Value} {v : CV} (hr : Rel φ s w) (h1 : VT φ c u) (h2 : VT φ c' u') (h : binE ty held op t (isConst x || isConst y) c c' = some v) :
    GoesV P φ s w (do eqGuard op t x y u u'; binOp op t u u') (.v (.c v)) s := by
  suffices ∃ z, VC φ v z ∧ (do eqGuard op t x y u u'; binOp op t u u').run P w = .ok z w by
    obtain ⟨z, g1, g2⟩ := this
    exact goesV_pure hr g1 g2
  unfold binE at h
  split at h
  · rename_i k a k' b
    have h1' : u = _ := h1; have h2' : u' = _ := h2
    have hg : (eqGuard op t x y u u').run P w = .ok () w := guard_ok (φ := φ) (c := .int k a) (c' := .int k' b) h1 h2 (fun e1 _ => by cases e1)
    rw [Sem.run_bind, hg]
    simp only [Result.andThen_ok]
    subst h1'; subst h2'
    unfold binI at h
    split at h
    · exact sh_ok t (.inl rfl) h
    · exact sh_ok t (.inr rfl) h
    · rw [chk_some] at h
      obtain ⟨g1, g2⟩ := h
      have := beqKind_eq g1; subst this
      exact int_ok t g2
  · rename_i k r e k' b
    obtain ⟨n, h1', hmd⟩ := h1
    have h2' : u' = _ := h2
    have hg : (eqGuard op t x y u u').run P w = .ok () w := guard_ok (φ := φ) (c := .md k r e) (c' := .int k' b) ⟨n, h1', hmd⟩ h2 (fun e1 _ => by cases e1)
    rw [Sem.run_bind, hg]
    simp only [Result.andThen_ok]
    subst h1'; subst h2'
    exact md_ok t hmd h
  · rename_i a b
    have h1' : u = _ := h1
    have h2' : u' = _ := h2
    have hg : (eqGuard op t x y u u').run P w = .ok () w := guard_ok (φ := φ) (c := .str a) (c' := .str b) h1 h2 (fun e1 _ => by cases e1)
    rw [Sem.run_bind, hg]
    simp only [Result.andThen_ok]
    subst h1'; subst h2'
    exact strs_ok t h
  · exact binC_ok E h1 h2 h
  · rename_i l l'
    obtain ⟨vs, hv, rfl⟩ := h1
    obtain ⟨us, hu, rfl⟩ := h2
    simp only [binAgg, Option.bind_eq_some_iff, chk_some, Nat.beq_eq] at h
    obtain ⟨ti, g1, n, g2, g3, r, g5, g6⟩ := h
    obtain ⟨i, hi⟩ := E.of g1
    simp only [eqOk, Option.bind_eq_some_iff, chk_some, Bool.not_eq_true'] at g2
    obtain ⟨fs', g4, g7, g8⟩ := g2
    obtain ⟨fs, hfs, rfl⟩ := structOf_some g4
    have hun := hi.und
    rw [hfs] at hun
    have hfo : P.fieldsOf t = fs := by simp [Program.fieldsOf, hun]
    have hdep : ∃ d, P.depth = d + 1 + 1 + 1 := ⟨P.depth - 3, by have : P.depth = 2 * (P.types.size + Made.depth) + 1 + 1 := rfl; have : Made.depth = 100 := rfl; omega⟩
    obtain ⟨d, hd⟩ := hdep
    have hgt : P.eqGuardType P.depth t = false := by
      rw [hd]
      unfold Program.eqGuardType
      simp only [hun]
      rw [← Array.any_toList]
      exact guardType_2 E g8
    have hg : (eqGuard op t x y (.agg vs.toArray) (.agg us.toArray)).run P w = .ok () w := by
      cases op
      case eql => simp [eqGuard, hgt]
      case neq => simp [eqGuard, hgt]
      all_goals rfl
    have he : (Op.equal t (.agg vs.toArray) (.agg us.toArray)).run P w = .ok r w := by
      have e : Op.maxDepth = 9997 + 2 + 1 := rfl
      unfold Op.equal
      rw [e, run_equalIn_struct w _ t _ _ (by rw [hfo]; exact hun) (by rw [← E.held]; exact g7), hfo]
      exact fields2_ok E g8 (by rw [Nat.zero_add]; exact g3) (by simpa using hv) (by simpa using hu) g5
    rw [Sem.run_bind, hg]
    simp only [Result.andThen_ok]
    exact eqOp_ok g6 he rfl rfl
  · cases h

end
end Go.Proofs.YtjbnkokcbhfdgabGreatDoor.Ev
