/- How slices of whatever lie in memory: rows of things at addresses; what the reading of an argument gives of them. -/
import Derived.Test.YtkgjfkeaiiigfaaBase
import Derived.OpenShut
import Derived.Deep.Slices
import Derived.Lib.SmallJoins
namespace Go.Proofs.Ytkgjfkeaiiigfaa
open Go.RowKit
set_option linter.unusedVariables false

/-- v is a slice (nil too) of the things xs, each at its address: R a x says that x lies at a -/
def Rows {α : Type} (R : Addr → α → Prop) (d : α) (sz : Nat) (v : Value) (xs : List α) : Prop := ∃ A c, v = .slice A xs.length c ∧ xs.length ≤ c ∧ c ≤ maxLen ∧
  (0 < xs.length → ∃ b off, A = some ⟨b, off, none⟩ ∧ ∀ j, j < xs.length → R ⟨b, off + j * sz, none⟩ (xs.getD j d))

theorem Rows.mono {α : Type} {R R' : Addr → α → Prop} {d : α} {sz : Nat} {v : Value} {xs : List α} (h : Rows R d sz v xs) (hR : ∀ a x, R a x → R' a x) : Rows R' d sz v xs := by
  obtain ⟨A, c, h1, h2, h3, h4⟩ := h
  refine ⟨A, c, h1, h2, h3, fun h0 => ?_⟩
  obtain ⟨b, off, hA, hc⟩ := h4 h0
  exact ⟨b, off, hA, fun j hj => hR _ _ (hc j hj)⟩

theorem rows_nil {α : Type} (R : Addr → α → Prop) (d : α) (sz : Nat) : Rows R d sz (.slice none 0 0) [] := ⟨none, 0, rfl, by simp, by simp, fun h => by simp at h⟩

section
variable {H : Type} {enc : TypeId × Value → H} {P : Program} {w : World} {base : Nat} {spare : Nat → Bool} {held : Bool}

theorem spot_none {w : World} {x : Addr} {v : Value} (h : w.cell? x = some v) : x.spot = none := by
  unfold World.cell? at h
  cases hs : x.spot with
  | none => rfl
  | some s => rw [hs] at h; simp at h; split at h <;> simp at h

theorem spot_add {x : Addr} {i : Nat} (h : (x.add i).spot = none) (hx : x.spot = none) : x.add i = ⟨x.block, x.off + i, none⟩ := by
  unfold Addr.add
  split
  · rename_i h0; subst h0; cases x; simp at hx; simp [hx]
  · rfl

theorem open_rows {α : Type} {R : Addr → α → Prop} (d : α) {sz : Nat} {t e : TypeId} {fuel : Nat} {cs : List Value} {x : DataW H × List MemPlace} (ht : P.underlying t = some (.slice e)) (hc : P.cellsOf e = sz) (hsz : 0 < sz)
    (hel : ∀ fuel b off cs y, cs.length = sz → (∀ i, i < sz → w.cell? ⟨b, off + i, none⟩ = cs[i]?) → DataW.trod enc P w base spare held fuel e cs = some y → ∃ x, R ⟨b, off, none⟩ x)
    (h : DataW.trod enc P w base spare held fuel t cs = some x) : ∃ v xs, cs = [v] ∧ Rows R d sz v xs := by
  rcases Go.Deep.open_slice ht h with ⟨rfl, _⟩ | ⟨a, len, cap, m, n, D, Pl, rfl, hb, hl, hm, hmm, rfl, hx⟩
  · exact ⟨_, [], rfl, rows_nil R d sz⟩
  · have hlm : len ≤ m := by rw [hmm]; split <;> omega
    have each : ∀ i, i < len → ∃ x, R ⟨a.block, a.off + i * sz, none⟩ x := by
      intro i hi
      obtain ⟨cs', h1, h2⟩ := hx i (by omega)
      rw [hc] at h1
      obtain ⟨_, hlen, hcell⟩ := World.cells?_some h1
      have hpos : 0 < cs'.length := by omega
      have c0 := hcell 0 hsz
      rw [List.getElem?_eq_getElem hpos] at c0
      have s0 := spot_none c0
      have ha : a.spot = none := by
        by_cases hz : i * sz = 0
        · rw [hz] at s0; simpa [Addr.add] using s0
        · obtain ⟨cs0, g1, _⟩ := hx 0 (by omega)
          rw [hc] at g1
          obtain ⟨_, glen, gcell⟩ := World.cells?_some g1
          have gpos : 0 < cs0.length := by omega
          have d0 := gcell 0 hsz
          rw [List.getElem?_eq_getElem gpos] at d0
          have := spot_none d0
          simpa [Addr.add] using this
      have e1 : a.add (i * sz) = ⟨a.block, a.off + i * sz, none⟩ := by
        unfold Addr.add
        split
        · rename_i h0; rw [h0]; cases a; simp at ha; simp [ha]
        · rfl
      refine hel n a.block (a.off + i * sz) cs' _ hlen (fun j hj => ?_) h2
      have := hcell j hj
      rw [e1] at this
      rw [← this]
      congr 1
      unfold Addr.add
      split
      · rename_i h0; subst h0; rfl
      · rfl
    by_cases h0 : 0 < len
    · obtain ⟨f, hf⟩ : ∃ f : Nat → α, ∀ i, i < len → R ⟨a.block, a.off + i * sz, none⟩ (f i) := by
        haveI : Inhabited α := ⟨d⟩
        exact Go.Deep.choose_lt each
      refine ⟨_, (List.range len).map f, rfl, some a, cap, by simp, by simpa using hl, hm, fun _ => ⟨a.block, a.off, ?_, fun j hj => ?_⟩⟩
      · obtain ⟨cs0, g1, _⟩ := hx 0 (by omega)
        rw [hc] at g1
        obtain ⟨_, glen, gcell⟩ := World.cells?_some g1
        have gpos : 0 < cs0.length := by omega
        have d0 := gcell 0 hsz
        rw [List.getElem?_eq_getElem gpos] at d0
        have := spot_none d0
        have ha : a.spot = none := by simpa [Addr.add] using this
        cases a; simp at ha; simp [ha]
      · have hj' : j < len := by simpa using hj
        have := hf j hj'
        simpa [List.getD_eq_getElem?_getD, hj'] using this
    · obtain rfl : len = 0 := by omega
      exact ⟨_, [], rfl, some a, cap, by simp, by simp, hm, fun h => by simp at h⟩

end

/-- a whole number at an address -/
def IntAt (w : World) (a : Addr) (x : Int) : Prop := w.cell? a = some (.int .i64 x) ∧ (Lit.int .i64 x).wf = true

end Go.Proofs.Ytkgjfkeaiiigfaa
