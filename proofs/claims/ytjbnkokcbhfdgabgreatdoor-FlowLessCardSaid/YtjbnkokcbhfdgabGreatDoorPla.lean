/- A place (api.Place): five numbers. Read as data and back; its order. -/
import Derived.Test.YtjbnkokcbhfdgabGreatDoorProg
import Derived.RowKit
import Derived.WalkKit
import Derived.WalkSpells
import Derived.KernelRfl
import Derived.Below
import Derived.ChangeShapes
import Derived.WideShapes
import Derived.ChangeSame
import Derived.Lib.SmallJoins
import Derived.Lib.Small
namespace Go.Proofs.YtjbnkokcbhfdgabGreatDoor
open Go Go.ChangeShapes Go.WideShapes Go.ChangeAt Go.RowKit Go.Lib
set_option linter.unusedVariables false
set_option maxRecDepth 10000

structure Pla where
  k : Int
  a : Int
  n : Int
  s : Int
  f : Int
def Pla.v (p : Pla) : Value := .agg #[.int .i64 p.k, .int .i64 p.a, .int .i64 p.n, .int .i64 p.s, .int .i64 p.f]
def Pla.d {H : Type} (p : Pla) : DataW H := .agg [.lit (.int .i64 p.k), .lit (.int .i64 p.a), .lit (.int .i64 p.n), .agg [.lit (.int .i64 p.s), .lit (.int .i64 p.f)]]
def w64 (n : Int) : Prop := (Lit.int .i64 n).wf = true
def Pla.Ok (p : Pla) : Prop := w64 p.k ∧ w64 p.a ∧ w64 p.n ∧ w64 p.s ∧ w64 p.f

section
variable {H : Type} {enc : TypeId × Value → H} {w : World} {base : Nat} {sp : Nat → Bool} {held : Bool}
theorem int_one {fuel : Nat} {c : Value} {y : DataW H × List MemPlace} (h : DataW.trod enc Tryz.prog w base sp held fuel 3 [c] = some y) : ∃ n, c = .int .i64 n ∧ y = (.lit (.int .i64 n), []) ∧ w64 n := by
  obtain ⟨n, h1, h2, h3⟩ := DataW.trod_int Tryz.underlying3 h
  cases h1
  exact ⟨n, rfl, h2, h3⟩
theorem cells_int : Tryz.prog.cellsOf 3 = 1 := by kernel_rfl
theorem cells_cell : Tryz.prog.cellsOf 48 = 2 := by kernel_rfl
theorem cells_place : Tryz.prog.cellsOf 52 = 5 := by kernel_rfl
theorem open_place {r : Reach} {b0 : Nat} {v : Value} {d : DataW H} {ps : List MemPlace} (hval : Value.okWide Tryz.prog w r b0 52 v) (hd : DataW.Trod enc Tryz.prog w base sp held 52 v d ps) :
    ∃ p : Pla, v = p.v ∧ d = p.d ∧ ps = [] ∧ p.Ok := by
  obtain ⟨cs, rfl, hsz⟩ := okWide_struct Tryz.underlying52 hval
  rw [cells_place] at hsz
  obtain ⟨fuel, hf⟩ := hd
  obtain ⟨l⟩ := cs
  match l, hsz with
  | [c0, c1, c2, c3, c4], _ =>
    obtain ⟨y0, y1, y2, y3, n, hx, _, h0, h1, h2, h3⟩ := Go.Joins.trod_struct4 Tryz.underlying52 hf
    simp only [cells_int, cells_cell, Value.cells] at h0 h1 h2 h3
    obtain ⟨k, rfl, rfl, w0⟩ := int_one (by simpa using h0)
    obtain ⟨a, rfl, rfl, w1⟩ := int_one (by simpa using h1)
    obtain ⟨m, rfl, rfl, w2⟩ := int_one (by simpa using h2)
    obtain ⟨z0, z1, n', hx', _, g0, g1⟩ := Go.ChangeShapes.trod_struct2 Tryz.underlying48 h3
    simp only [cells_int] at g0 g1
    obtain ⟨s, rfl, rfl, w3⟩ := int_one (by simpa using g0)
    obtain ⟨f, rfl, rfl, w4⟩ := int_one (by simpa using g1)
    subst hx'
    simp only [Prod.mk.injEq] at hx
    obtain ⟨rfl, rfl⟩ := hx
    exact ⟨⟨k, a, m, s, f⟩, rfl, rfl, by simp, w0, w1, w2, w3, w4⟩
theorem shut_place {p : Pla} (hp : p.Ok) : DataW.Trod enc Tryz.prog w base sp held 52 p.v p.d [] := by
  obtain ⟨h0, h1, h2, h3, h4⟩ := hp
  refine ⟨3, ?_⟩
  have := Go.Joins.trod_struct4_mk (enc := enc) (P := Tryz.prog) (w := w) (base := base) (spare := sp) (held := held) (n := 2) (cs := p.v.cells.toList) Tryz.underlying52 (by rw [cells_place]; rfl)
    (y0 := (.lit (.int .i64 p.k), [])) (y1 := (.lit (.int .i64 p.a), [])) (y2 := (.lit (.int .i64 p.n), [])) (y3 := (.agg [.lit (.int .i64 p.s), .lit (.int .i64 p.f)], []))
    (by rw [show Tryz.prog.cellsOf _ = 1 from cells_int]; exact Go.ChangeShapes.trod_int_mk 1 Tryz.underlying3 h0)
    (by rw [show Tryz.prog.cellsOf _ = 1 from cells_int]; exact Go.ChangeShapes.trod_int_mk 1 Tryz.underlying3 h1)
    (by rw [show Tryz.prog.cellsOf _ = 1 from cells_int]; exact Go.ChangeShapes.trod_int_mk 1 Tryz.underlying3 h2)
    (by
      rw [show Tryz.prog.cellsOf _ = 2 from cells_cell]
      have := Go.ChangeShapes.trod_struct2_mk (enc := enc) (P := Tryz.prog) (w := w) (base := base) (spare := sp) (held := held) (n := 1) (cs := [.int .i64 p.s, .int .i64 p.f]) Tryz.underlying48 (by rw [cells_cell]; rfl)
        (y0 := (.lit (.int .i64 p.s), [])) (y1 := (.lit (.int .i64 p.f), []))
        (by rw [show Tryz.prog.cellsOf _ = 1 from cells_int]; exact Go.ChangeShapes.trod_int_mk 0 Tryz.underlying3 h3)
        (by rw [show Tryz.prog.cellsOf _ = 1 from cells_int]; exact Go.ChangeShapes.trod_int_mk 0 Tryz.underlying3 h4)
      exact this)
  exact this
end

/-! the order of places -/
def orI (x y : Int) : Int := if x = 0 then y else x
def Pla.cmp (p q : Pla) : Int := orI (compareInt p.k q.k) (orI (compareInt p.a q.a) (orI (compareInt p.n q.n) (orI (compareInt p.s q.s) (compareInt p.f q.f))))
def Pla.lt (p q : Pla) : Prop := p.k < q.k ∨ (p.k = q.k ∧ (p.a < q.a ∨ (p.a = q.a ∧ (p.n < q.n ∨ (p.n = q.n ∧ (p.s < q.s ∨ (p.s = q.s ∧ p.f < q.f)))))))
instance Pla.decLt (p q : Pla) : Decidable (p.lt q) := by unfold Pla.lt; infer_instance
theorem or_lt (x y r : Int) : orI (compareInt x y) r < 0 ↔ (x < y ∨ (x = y ∧ r < 0)) := by
  unfold orI compareInt
  by_cases h1 : x < y
  · simp [h1]
  · by_cases h2 : x > y
    · simp [h1, h2]; omega
    · have : x = y := by omega
      simp [this]
theorem cmpI_lt (x y : Int) : compareInt x y < 0 ↔ x < y := by
  unfold compareInt
  by_cases h1 : x < y
  · simp [h1]
  · by_cases h2 : x > y
    · simp [h1, h2]
    · simp [h1, h2]
theorem Pla.cmp_lt (p q : Pla) : p.cmp q < 0 ↔ p.lt q := by
  unfold Pla.cmp Pla.lt
  rw [or_lt, or_lt, or_lt, or_lt, cmpI_lt]
theorem Pla.lt_asym (p q : Pla) (h : p.lt q) : ¬ q.lt p := by unfold Pla.lt at *; omega
theorem Pla.lt_trans (p q r : Pla) (h : p.lt q) (h' : q.lt r) : p.lt r := by unfold Pla.lt at *; omega
end Go.Proofs.YtjbnkokcbhfdgabGreatDoor
