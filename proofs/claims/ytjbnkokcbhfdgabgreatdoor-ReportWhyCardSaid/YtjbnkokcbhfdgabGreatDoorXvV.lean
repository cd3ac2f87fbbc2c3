/- Two hooks in a row; what the condition gives of the handle. -/
import Derived.Test.YtjbnkokcbhfdgabGreatDoorXvU
import Derived.Test.YtjbnkokcbhfdgabGreatDoorXvL
import Derived.Test.YtjbnkokcbhfdgabGreatDoorXvW
namespace Go.Proofs.YtjbnkokcbhfdgabGreatDoor
open Go Go.RowKit Ev
set_option linter.unusedVariables false

theorem han_et : Tryz.prog.globalNamed "errors.errorType" = some 0 := by kernel_rfl
theorem han_rt : (Tryz.prog.cutTypes.find? (·.1 == "internal/reflectlite.rtype")).map (·.2) = some 376 := by kernel_rfl
theorem han_row : ((List.range 509).filter fun t => Tryz.prog.rowNamed t [101, 114, 114, 111, 114]) = [64] := by kernel_rfl
theorem han_size : Tryz.prog.types.size = 509 := by kernel_rfl
theorem han_of_laid {w : World} (h : laidMetH Tryz.prog laidL w) : Ev.Han w := by
  have h1 := (laidMetH_iff.1 h).2
  obtain ⟨name, u, ty, e1, e2, e3, e4, e5⟩ := h1 ("errors.errorType", Rows.laid_errors_errorType) (by exact List.mem_singleton.2 rfl)
  have en : name = [101, 114, 114, 111, 114] := (Option.some.inj e1).symm
  subst en
  obtain rfl := Option.some.inj (han_rt.symm.trans e2)
  have hm : ty ∈ (List.range 509).filter fun t => Tryz.prog.rowNamed t [101, 114, 114, 111, 114] := List.mem_filter.2 ⟨List.mem_range.2 (by rw [← han_size]; exact e3), e4⟩
  rw [han_row] at hm
  obtain rfl := List.mem_singleton.1 hm
  have hh : typeHandle Tryz.prog 64 = .pointer (some ⟨5, 64, none⟩) := by kernel_rfl
  rw [hh] at e5
  have := World.var?_cell han_et e5 0
  simpa [Ev.Han] using this
namespace Ev
theorem as_okw {w : World} (hT : Han w) : CallOk Tryz.prog (keptOf w) asF := as_ok fun φ w' h => hT.kept h.row
end Ev
end Go.Proofs.YtjbnkokcbhfdgabGreatDoor
