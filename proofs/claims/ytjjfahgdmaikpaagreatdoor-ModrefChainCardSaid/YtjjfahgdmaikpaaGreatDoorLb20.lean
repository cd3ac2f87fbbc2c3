/- haruspexlaw20.begun gives true. -/
import Derived.Test.YtjjfahgdmaikpaaGreatDoorXvL
namespace Go.Proofs.YtjjfahgdmaikpaaGreatDoor
open Go Go.RowKit Ev
set_option maxRecDepth 100000
theorem b20 : isBool true (runW tzK 28 [] s0) = true := by kernel_rfl
abbrev L20 : List Nat := [28]
noncomputable abbrev hk20 : CallK := memK L20 tzK
theorem hL20 : ∀ f, memN L20 f = true → isBool true (runW tzK f [] s0) = true := by
  intro f h
  rw [memN_cons, Bool.or_eq_true] at h
  rcases h with h | h
  · rw [← Nat.eq_of_beq_eq_true h]; exact b20
  · cases h
abbrev ai (n : Int) : AV := .v (.c (.int .i64 n))
abbrev ab (b : Bool) : AV := .v (.c (.bool b))
abbrev Ok20 (f : Nat) (l : List AV) : Prop := isBool true (runW hk20 f l s0) = true
theorem law20 {f : Nat} {l : List AV} {args : Array Value} (h : Ok20 f l) (ha : VAs (fun _ => none) l args.toList) (w : World) (hT : Tab w) :
    Calls Tryz.prog f args w fun e w' => Below w.heap.size w w' ∧ e = .returned (.bool true) :=
  (boolW (mem_eq L20 tz_eq) (mem_upd L20 tz_upd) h ha w (mem_okw hL20 hT)).2
end Go.Proofs.YtjjfahgdmaikpaaGreatDoor
