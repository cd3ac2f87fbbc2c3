/- The listed variables where a row lists four. -/
import Derived.Test.YtjbnkokcbhfdgabGreatDoorXvL
import Derived.Test.YtjbnkokcbhfdgabGreatDoorXvV
import Derived.Lib.LaidTab
import Derived.Lib.LaidU8
import Derived.LaidSub
import Derived.LaidHandle
import Derived.LaidLaws
import Derived.Stop.Joined
namespace Go.Proofs.YtjbnkokcbhfdgabGreatDoor
open Go Go.RowKit Ev
set_option linter.unusedVariables false

abbrev laidL4 : List (String × DataW Unit) := [("math/bits.deBruijn32tab", Rows.laid_math_bits_deBruijn32tab), ("math/bits.deBruijn64tab", Rows.laid_math_bits_deBruijn64tab), ("internal/strconv.uint64pow10", Rows.laid_internal_strconv_uint64pow10), ("errors.errorType", Rows.laid_errors_errorType)]
theorem tab_of_laid4 {w : World} (h : laidMetH Tryz.prog laidL4 w) : Ev.Tab w := by
  have h1 := (laidMetH_iff.1 h).1
  have h2 : laidMet Tryz.prog [("math/bits.deBruijn32tab", Rows.laid_math_bits_deBruijn32tab), ("math/bits.deBruijn64tab", Rows.laid_math_bits_deBruijn64tab), ("internal/strconv.uint64pow10", Rows.laid_internal_strconv_uint64pow10)] w := h1
  obtain ⟨g, t, cs, fuel, p, e1, e2, e3, e4⟩ := Lib.laidMet.reads h2 (List.mem_cons_of_mem _ List.mem_cons_self)
  obtain rfl := Option.some.inj (laid_u.symm.trans e1)
  obtain rfl := Option.some.inj (laid_t.symm.trans e2)
  have h3 := Lib.cells_of_tab (k := .u8) (zs := Lib.deBruijn64tab.map Int.ofNat) (show Tryz.prog.underlying 316 = some (.array 64 5) by kernel_rfl) (show Tryz.prog.underlying 5 = some (.int .u8) by kernel_rfl)
    (by kernel_rfl) (by kernel_rfl) e4
  intro j hj
  rw [World.var?_cell e1 e3 j, ← Array.getElem?_toList, h3]
  simp [hj, List.getD_eq_getElem?_getD]

theorem han_of_laid4 {w : World} (h : laidMetH Tryz.prog laidL4 w) : Ev.Han w := by
  have h1 := (laidMetH_iff.1 h).2
  obtain ⟨name, u, ty, e1, e2, e3, e4, e5⟩ := h1 ("errors.errorType", Rows.laid_errors_errorType) (by exact List.mem_singleton.2 rfl)
  have en : name = [101, 114, 114, 111, 114] := (Option.some.inj e1).symm
  subst en
  obtain rfl := Option.some.inj (han_rt.symm.trans e2)
  have hm : ty ∈ (List.range 509).filter fun t => Tryz.prog.rowNamed t [101, 114, 114, 111, 114] := List.mem_filter.2 ⟨List.mem_range.2 (by rw [← han_size]; exact e3), e4⟩
  rw [han_row] at hm
  obtain rfl := List.mem_singleton.1 hm
  have hh : typeHandle Tryz.prog 64 = .pointer (some ⟨5, 64, none⟩) := by kernel_rfl
  rw [hh] at e5
  have := World.var?_cell han_et e5 0
  simpa [Ev.Han] using this
/-- a world that meets the condition -/
def litV : DataW Unit → Value
  | .lit (.int k n) => .int k n
  | _ => undef
def rowV : DataW Unit → Array Value
  | .agg l => (l.map litV).toArray
  | _ => #[]
noncomputable def laidWorld4 (os : Os) : World :=
  let w0 := World.holding Tryz.prog os ⟨#[], #[], []⟩
  { w0 with heap := (((w0.heap.modify 1 fun
      | .cells _ t frozen => .cells ((Lib.deBruijn64tab.map fun n => Value.int .u8 (Int.ofNat n)).toArray) t frozen
      | o => o).modify 0 fun
      | .cells _ t frozen => .cells #[handleV] t frozen
      | o => o).modify 4 fun
      | .cells _ t frozen => .cells (rowV Rows.laid_math_bits_deBruijn32tab) t frozen
      | o => o).modify 2 fun
      | .cells _ t frozen => .cells (rowV Rows.laid_internal_strconv_uint64pow10) t frozen
      | o => o }
set_option maxRecDepth 100000 in
theorem laidWorld4_met (os : Os) (args : Array Value) : laidMetH Tryz.prog laidL4 ((laidWorld4 os).forCall (fun _ _ => 0) ⟨#[], args, []⟩).memory :=
  laidMetH_of_parts (laidMet_of_run' 8 (by kernel_rfl) (by kernel_rfl)) (by kernel_rfl)
end Go.Proofs.YtjbnkokcbhfdgabGreatDoor
