/- The hooks of the whole. -/
import Derived.Test.YtjbnkokcbhfdgabGreatDoorLb28
import Derived.Test.YtjbnkokcbhfdgabGreatDoorXvX2
import Derived.Test.YtjbnkokcbhfdgabGreatDoorSm
namespace Go.Proofs.YtjbnkokcbhfdgabGreatDoor
open Go Go.RowKit Ev
set_option maxRecDepth 100000
noncomputable abbrev hkT : CallK := orK smallK (orK growK (orK (sortK 125 126) (orK (sortK 94 95) hk28)))
noncomputable abbrev hfT : CallF := orF smallF (orF growF (orF (sortF 125 126) (orF (sortF 94 95) (memF L28 tzF))))
theorem eqT : CallEq hkT hfT := or_eq small_eq (or_eq grow_eq (or_eq (sort_eq _ _) (or_eq (sort_eq _ _) (mem_eq L28 tz_eq))))
theorem updT : CallUpd hfT := or_upd small_upd (or_upd grow_upd (or_upd (sort_upd _ _) (or_upd (sort_upd _ _) (mem_upd L28 tz_upd))))
theorem okT {w : World} (hT : Tab w) : CallOk Tryz.prog (keptOf w) hfT := or_ok small_ok (or_ok grow_ok (or_ok sortEdge_ok (or_ok sortCell_ok (mem_okw hL28 hT))))
/-- a number of which its rest is known -/
abbrev mi (k : Nat) (r : Nat) : AV := .v (.c (.md k (Int.ofNat r) false))
abbrev OkT (f : Nat) (l : List AV) : Prop := isBool true (runW hkT f l s0) = true
theorem lawT {f : Nat} {l : List AV} {args : Array Value} (h : OkT f l) (ha : VAs (fun _ => none) l args.toList) (w : World) (hT : Tab w) :
    Calls Tryz.prog f args w fun e w' => Below w.heap.size w w' ∧ e = .returned (.bool true) :=
  (boolW eqT updT h ha w (okT hT)).2
theorem md_of (n : Int) (k : Nat) : VA (fun _ => none) (mi k (n.tmod (k : Int)).natAbs) (.int .i64 n) := ⟨n, rfl, rfl⟩
theorem md_lt (n : Int) (k : Nat) (hk : 0 < k) : (n.tmod (k : Int)).natAbs < k := by
  rw [Int.natAbs_tmod]; exact Nat.mod_lt _ hk
end Go.Proofs.YtjbnkokcbhfdgabGreatDoor
