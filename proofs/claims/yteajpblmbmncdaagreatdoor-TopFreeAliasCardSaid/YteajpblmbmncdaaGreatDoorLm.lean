/- The hooks and tables of calls. -/
import Derived.Test.YteajpblmbmncdaaGreatDoorLt
import Derived.Test.YteajpblmbmncdaaGreatDoorXvM
namespace Go.Proofs.YteajpblmbmncdaaGreatDoor
open Go Go.RowKit Ev
set_option maxRecDepth 100000
set_option linter.unusedVariables false
noncomputable abbrev cT : CallF := callE tt hh hfT ft.get 1000000 200
theorem cT_ok {w : World} (hT : Tab w) : CallOk Tryz.prog (keptOf w) cT := call_sound (okT hT) updT fns 1000000 200 env
abbrev TblT (m : MM) : Prop := tblK (fun f l s => runW hkT f l s) m.bl m.nb m.t = true
abbrev AllT : List MM → Prop
  | [] => True
  | m :: ms => TblT m ∧ AllT ms
theorem tblsT : ∀ {ms : List MM}, AllT ms → TblsOk cT ms
  | [], _ => trivial
  | m :: ms, h => ⟨tbl_of (fun f l s v s' h => runW_spec eqT h) h.1, tblsT h.2⟩
theorem lawM {ms : List MM} (hm : AllT ms) {f : Nat} {l : List AV} {args : Array Value} (h : isBool true (runW (memosK hkT ms) f l s0) = true) (ha : VAs (fun _ => none) l args.toList) (w : World) (hT : Tab w) :
    Calls Tryz.prog f args w fun e w' => Below w.heap.size w w' ∧ e = .returned (.bool true) :=
  (boolW (memos_eq eqT ms) (memos_upd updT ms) h ha w (memos_ok (cT_ok hT) (okT hT) (tblsT hm))).2
end Go.Proofs.YteajpblmbmncdaaGreatDoor
