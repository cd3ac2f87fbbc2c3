/- The hooks of the solver's laws. -/
import Derived.Test.YtjjfahgdmaikpaaGreatDoorLb20
import Derived.Test.YtjjfahgdmaikpaaGreatDoorXvX1
namespace Go.Proofs.YtjjfahgdmaikpaaGreatDoor
open Go Go.RowKit Ev
set_option maxRecDepth 100000
noncomputable abbrev hkT : CallK := orK (sortK 66 67) hk20
noncomputable abbrev hfT : CallF := orF (sortF 66 67) (memF L20 tzF)
theorem eqT : CallEq hkT hfT := or_eq (sort_eq _ _) (mem_eq L20 tz_eq)
theorem updT : CallUpd hfT := or_upd (sort_upd _ _) (mem_upd L20 tz_upd)
theorem okT {w : World} (hT : Tab w) : CallOk Tryz.prog (keptOf w) hfT := or_ok sortEdge_ok (mem_okw hL20 hT)
abbrev OkT (f : Nat) (l : List AV) : Prop := isBool true (runW hkT f l s0) = true
theorem lawT {f : Nat} {l : List AV} {args : Array Value} (h : OkT f l) (ha : VAs (fun _ => none) l args.toList) (w : World) (hT : Tab w) :
    Calls Tryz.prog f args w fun e w' => Below w.heap.size w w' ∧ e = .returned (.bool true) :=
  (boolW eqT updT h ha w (okT hT)).2
end Go.Proofs.YtjjfahgdmaikpaaGreatDoor
