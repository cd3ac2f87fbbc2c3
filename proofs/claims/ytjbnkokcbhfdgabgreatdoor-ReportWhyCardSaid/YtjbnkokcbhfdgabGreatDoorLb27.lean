/- haruspexlaw27.begun gives true. -/
import Derived.Test.YtjbnkokcbhfdgabGreatDoorXvY
import Derived.Test.YtjbnkokcbhfdgabGreatDoorSm
namespace Go.Proofs.YtjbnkokcbhfdgabGreatDoor
open Go Go.RowKit Ev
set_option maxRecDepth 100000
set_option linter.unusedVariables false
noncomputable abbrev hkA : CallK := orK growK (orK bqK (orK itK (orK asK tzK)))
noncomputable abbrev hfA : CallF := orF growF (orF bqF (orF itF (orF asF tzF)))
theorem eqA : CallEq hkA hfA := or_eq grow_eq (or_eq bq_eq (or_eq it_eq (or_eq as_eq tz_eq)))
theorem updA : CallUpd hfA := or_upd grow_upd (or_upd bq_upd (or_upd it_upd (or_upd as_upd tz_upd)))
theorem okA {w : World} (hT : Tab w) (hH : Han w) : CallOk Tryz.prog (keptOf w) hfA := or_ok grow_ok (or_ok bq_ok (or_ok it_ok (or_ok (as_okw hH) (tz_okw hT))))
theorem b27 : isBool true (runW hkA 16 [] s0) = true := by kernel_rfl
abbrev L27 : List Nat := [16]
noncomputable abbrev hk27 : CallK := memK L27 hkA
theorem hL27 : ∀ f, memN L27 f = true → isBool true (runW hkA f [] s0) = true := by
  intro f h
  rw [memN_cons, Bool.or_eq_true] at h
  rcases h with h | h
  · rw [← Nat.eq_of_beq_eq_true h]; exact b27
  · cases h
abbrev ai (n : Int) : AV := .v (.c (.int .i64 n))
abbrev ab (b : Bool) : AV := .v (.c (.bool b))
theorem law27 {f : Nat} {l : List AV} {args : Array Value} (h : isBool true (runW hk27 f l s0) = true) (ha : VAs (fun _ => none) l args.toList) (w : World) (hT : Tab w) (hH : Han w) :
    Calls Tryz.prog f args w fun e w' => Below w.heap.size w w' ∧ e = .returned (.bool true) :=
  (boolW (mem_eq L27 eqA) (mem_upd L27 updA) h ha w (mem_ok eqA updA hL27 (fun φ w' h => okA (hT.kept h.row) (hH.kept h.row)) (okA hT hH))).2
end Go.Proofs.YtjbnkokcbhfdgabGreatDoor
