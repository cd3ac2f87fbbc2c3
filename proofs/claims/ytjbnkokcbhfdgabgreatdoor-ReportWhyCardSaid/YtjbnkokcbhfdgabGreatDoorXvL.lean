/- The listed variables: what the condition on them gives, and a world that meets it. -/
import Derived.Test.YtjbnkokcbhfdgabGreatDoorXvG
import Derived.Test.YtjbnkokcbhfdgabGreatDoorRows
import Derived.Lib.LaidTab
import Derived.Lib.LaidU8
import Derived.LaidSub
import Derived.LaidHandle
import Derived.LaidLaws
import Derived.Stop.Joined
namespace Go.Proofs.YtjbnkokcbhfdgabGreatDoor
open Go Go.RowKit Go.Proofs
set_option linter.unusedVariables false

abbrev laidL : List (String × DataW Unit) := [("math/bits.deBruijn64tab", Rows.laid_math_bits_deBruijn64tab), ("errors.errorType", Rows.laid_errors_errorType)]
theorem laid_u : Tryz.prog.globalNamed "math/bits.deBruijn64tab" = some 1 := by kernel_rfl
theorem laid_t : (Tryz.prog.globals[1]?).map (·.type) = some 316 := by kernel_rfl
theorem tab_of_laid {w : World} (h : laidMetH Tryz.prog laidL w) : Ev.Tab w := by
  have h1 := (laidMetH_iff.1 h).1
  have h2 : laidMet Tryz.prog [("math/bits.deBruijn64tab", Rows.laid_math_bits_deBruijn64tab)] w := h1
  obtain ⟨g, t, cs, fuel, p, e1, e2, e3, e4⟩ := Lib.laidMet.reads h2 (List.mem_singleton.2 rfl)
  obtain rfl := Option.some.inj (laid_u.symm.trans e1)
  obtain rfl := Option.some.inj (laid_t.symm.trans e2)
  have h3 := Lib.cells_of_tab (k := .u8) (zs := Lib.deBruijn64tab.map Int.ofNat) (show Tryz.prog.underlying 316 = some (.array 64 5) by kernel_rfl) (show Tryz.prog.underlying 5 = some (.int .u8) by kernel_rfl)
    (by kernel_rfl) (by kernel_rfl) e4
  intro j hj
  rw [World.var?_cell e1 e3 j, ← Array.getElem?_toList, h3]
  simp [hj, List.getD_eq_getElem?_getD]

/-- the handle of the type 'error' -/
noncomputable def handleV : Value := .iface (((Tryz.prog.cutTypes.find? (·.1 == "internal/reflectlite.rtype")).map (·.2)).getD 0) (.agg #[typeHandle Tryz.prog ((((List.range 509).filter fun t => Tryz.prog.rowNamed t [101, 114, 114, 111, 114])[0]?).getD 0)])
/-- a world that meets the condition -/
noncomputable def laidWorld (os : Os) : World :=
  let w0 := World.holding Tryz.prog os ⟨#[], #[], []⟩
  { w0 with heap := (w0.heap.modify 1 fun
      | .cells _ t frozen => .cells ((Lib.deBruijn64tab.map fun n => Value.int .u8 (Int.ofNat n)).toArray) t frozen
      | o => o).modify 0 fun
      | .cells _ t frozen => .cells #[handleV] t frozen
      | o => o }
set_option maxRecDepth 100000 in
theorem laidWorld_met (os : Os) (args : Array Value) : laidMetH Tryz.prog laidL ((laidWorld os).forCall (fun _ _ => 0) ⟨#[], args, []⟩).memory :=
  laidMetH_of_parts (laidMet_of_run' 8 (by kernel_rfl) (by kernel_rfl)) (by kernel_rfl)
end Go.Proofs.YtjbnkokcbhfdgabGreatDoor
