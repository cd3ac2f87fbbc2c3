/- haruspexlaw23.begun gives true. -/
import Derived.Test.YtjbnkokcbhfdgabGreatDoorXvL
namespace Go.Proofs.YtjbnkokcbhfdgabGreatDoor
open Go Go.RowKit Ev
set_option maxRecDepth 100000
theorem b23 : isBool true (runW tzK 12 [] s0) = true := by kernel_rfl
abbrev L23 : List Nat := [12]
noncomputable abbrev hk23 : CallK := memK L23 tzK
theorem hL23 : ∀ f, memN L23 f = true → isBool true (runW tzK f [] s0) = true := by
  intro f h
  rw [memN_cons, Bool.or_eq_true] at h
  rcases h with h | h
  · rw [← Nat.eq_of_beq_eq_true h]; exact b23
  · cases h
abbrev ai (n : Int) : AV := .v (.c (.int .i64 n))
abbrev ab (b : Bool) : AV := .v (.c (.bool b))
abbrev Ok23 (f : Nat) (l : List AV) : Prop := isBool true (runW hk23 f l s0) = true
theorem law23 {f : Nat} {l : List AV} {args : Array Value} (h : Ok23 f l) (ha : VAs (fun _ => none) l args.toList) (w : World) (hT : Tab w) :
    Calls Tryz.prog f args w fun e w' => Below w.heap.size w w' ∧ e = .returned (.bool true) :=
  (boolW (mem_eq L23 tz_eq) (mem_upd L23 tz_upd) h ha w (mem_okw hL23 hT)).2
end Go.Proofs.YtjbnkokcbhfdgabGreatDoor
