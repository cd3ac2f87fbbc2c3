/- WorkAll: how the reading of its second argument gives the Pushes and Pops. -/
import Derived.Test.YtkgjfkeaiiigfaaWAll
import Derived.Test.YtkgjfkeaiiigfaaRep
namespace Go.Proofs.Ytkgjfkeaiiigfaa
open Go.RowKit Go.ChangeShapes
set_option linter.unusedVariables false

theorem cells28 : Try.prog.cellsOf 28 = 2 := by kernel_rfl
theorem cells3 : Try.prog.cellsOf 3 = 1 := by kernel_rfl
theorem cells4 : Try.prog.cellsOf 4 = 1 := by kernel_rfl

theorem ops_open {H : Type} {enc : TypeId × Value → H} {w : World} {base : Nat} {spare : Nat → Bool} {held : Bool} {fuel : Nat} {A : Option Addr} {n c : Nat} {x : DataW H × List MemPlace}
    (h : DataW.trod enc Try.prog w base spare held fuel 23 (Value.slice A n c).cells.toList = some x) : ∃ l, ReadsOps w (.slice A n c) l := by
  obtain ⟨v, xs, hv, A', c', h1, h2, h3, h4⟩ := open_rows (R := fun a (x : Bool × Int) => w.cell? a = some (.bool x.1) ∧ w.cell? ⟨a.block, a.off + 1, none⟩ = some (.int .i64 x.2) ∧ (Lit.int .i64 x.2).wf = true) (false, 0) Try.underlying23 cells28 (by omega)
    (fun fuel b off cs y hl hc ht => by
      obtain ⟨y0, y1, n, rfl, _, t0, t1⟩ := trod_struct2 Try.underlying28 ht
      match cs, hl with
      | [c0, c1], _ =>
        simp [cells3, cells4] at t0 t1
        obtain ⟨p, e0, _⟩ := DataW.trod_bool Try.underlying4 t0
        obtain ⟨q, e1, _, hq⟩ := DataW.trod_int Try.underlying3 t1
        simp at e0 e1
        subst e0 e1
        exact ⟨(p, q), by simpa using hc 0 (by omega), by simpa using hc 1 (by omega), hq⟩) h
  obtain rfl : .slice A n c = v := by simpa [Value.cells] using hv
  refine ⟨xs, A', c', h1, h2, h3, fun x hx => ?_, fun h0 => ?_⟩
  · obtain ⟨j, hj, rfl⟩ := List.getElem_of_mem hx
    obtain ⟨b, off, _, hc⟩ := h4 (by omega)
    have := (hc j hj).2.2
    simpa [List.getD_eq_getElem?_getD, List.getElem?_eq_getElem hj] using this
  · obtain ⟨b, off, hA, hc⟩ := h4 h0
    exact ⟨b, off, hA, fun j hj => ⟨(hc j hj).1, (hc j hj).2.1⟩⟩

end Go.Proofs.Ytkgjfkeaiiigfaa
