/- haruspexlaw28.begun gives true. -/
import Derived.Test.YtjbnkokcbhfdgabGreatDoorXvL
namespace Go.Proofs.YtjbnkokcbhfdgabGreatDoor
open Go Go.RowKit Ev
set_option maxRecDepth 100000
theorem b28 : isBool true (runW tzK 130 [] s0) = true := by kernel_rfl
abbrev L28 : List Nat := [130]
noncomputable abbrev hk28 : CallK := memK L28 tzK
theorem hL28 : ∀ f, memN L28 f = true → isBool true (runW tzK f [] s0) = true := by
  intro f h
  rw [memN_cons, Bool.or_eq_true] at h
  rcases h with h | h
  · rw [← Nat.eq_of_beq_eq_true h]; exact b28
  · cases h
abbrev ai (n : Int) : AV := .v (.c (.int .i64 n))
abbrev ab (b : Bool) : AV := .v (.c (.bool b))
abbrev Ok28 (f : Nat) (l : List AV) : Prop := isBool true (runW hk28 f l s0) = true
theorem law28 {f : Nat} {l : List AV} {args : Array Value} (h : Ok28 f l) (ha : VAs (fun _ => none) l args.toList) (w : World) (hT : Tab w) :
    Calls Tryz.prog f args w fun e w' => Below w.heap.size w w' ∧ e = .returned (.bool true) :=
  (boolW (mem_eq L28 tz_eq) (mem_upd L28 tz_upd) h ha w (mem_okw hL28 hT)).2
end Go.Proofs.YtjbnkokcbhfdgabGreatDoor
