/- WitnessNone gives true. -/
import Derived.Test.YtjjfahgdmaikpaaGreatDoorLb28
import Derived.Test.YtjjfahgdmaikpaaGreatDoorXvV
namespace Go.Proofs.YtjjfahgdmaikpaaGreatDoor
open Go Go.RowKit Ev
set_option maxRecDepth 100000
theorem witnessNone_ev : isBool true (runW (orK asK hk28) 14 [] s0) = true := by kernel_rfl
theorem witnessNone_true (w : World) (h : laidMetH Tryz.prog laidL w) : Calls Tryz.prog 14 #[] w fun e w' => Below w.heap.size w w' ∧ e = .returned (.bool true) :=
  (boolW (or_eq as_eq (mem_eq L28 tz_eq)) (or_upd as_upd (mem_upd L28 tz_upd)) witnessNone_ev (by exact trivial) w (or_ok (as_okw (han_of_laid h)) (mem_okw hL28 (tab_of_laid h)))).2
end Go.Proofs.YtjjfahgdmaikpaaGreatDoor
