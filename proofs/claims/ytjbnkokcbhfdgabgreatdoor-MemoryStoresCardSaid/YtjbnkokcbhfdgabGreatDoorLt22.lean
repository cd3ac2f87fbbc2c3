/- The hooks of the memory's laws. -/
import Derived.Test.YtjbnkokcbhfdgabGreatDoorLb22
namespace Go.Proofs.YtjbnkokcbhfdgabGreatDoor
open Go Go.RowKit Ev
set_option maxRecDepth 100000
noncomputable abbrev hkT : CallK := hk22
noncomputable abbrev hfT : CallF := memF L22 tzF
theorem eqT : CallEq hkT hfT := mem_eq L22 tz_eq
theorem updT : CallUpd hfT := mem_upd L22 tz_upd
theorem okT {w : World} (hT : Tab w) : CallOk Tryz.prog (keptOf w) hfT := mem_okw hL22 hT
abbrev OkT (f : Nat) (l : List AV) : Prop := isBool true (runW hkT f l s0) = true
theorem lawT {f : Nat} {l : List AV} {args : Array Value} (h : OkT f l) (ha : VAs (fun _ => none) l args.toList) (w : World) (hT : Tab w) :
    Calls Tryz.prog f args w fun e w' => Below w.heap.size w w' ∧ e = .returned (.bool true) :=
  (boolW eqT updT h ha w (okT hT)).2
end Go.Proofs.YtjbnkokcbhfdgabGreatDoor
