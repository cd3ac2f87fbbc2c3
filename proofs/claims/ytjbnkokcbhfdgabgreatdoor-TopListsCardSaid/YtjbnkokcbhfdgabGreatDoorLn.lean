/- Hooks, laid one upon another. -/
import Derived.Test.YtjbnkokcbhfdgabGreatDoorLt
import Derived.Test.YtjbnkokcbhfdgabGreatDoorXvO
namespace Go.Proofs.YtjbnkokcbhfdgabGreatDoor
open Go Go.RowKit Ev
set_option maxRecDepth 100000
set_option linter.unusedVariables false
structure HK where
  K : CallK
  F : CallF
  eq : CallEq K F
  upd : CallUpd F
  ok : ∀ w, Tab w → CallOk Tryz.prog (keptOf w) F
noncomputable def H0 : HK := ⟨hkT, hfT, eqT, updT, fun w h => okT h⟩
theorem HK.sound (H : HK) {w : World} (hT : Tab w) : CallOk Tryz.prog (keptOf w) (callE tt hh H.F ft.get 1000000 200) := call_sound (H.ok w hT) H.upd fns 1000000 200 env
noncomputable abbrev HK.run (H : HK) (f : Nat) (l : List AV) (s : StK) : Option (AV × StK) := runW H.K f l s
noncomputable abbrev HK.tbl (H : HK) (m : MM) : Bool := tblK (fun f l s => runW H.K f l s) m.bl m.nb m.t
noncomputable def HK.memo (H : HK) (m : MM) (h : H.tbl m = true) : HK :=
  ⟨orK (memoK m.fs m.bl m.t) H.K, orF (memoF m.fs m.bl m.t) H.F, or_eq (memo_eq _ _ _) H.eq, or_upd (memo_upd _ _ _) H.upd, fun w hT => or_ok (memo_ok (H.sound hT) (tbl_of (fun f l s v s' h => runW_spec H.eq h) h)) (H.ok w hT)⟩
noncomputable abbrev HK.rep (H : HK) (bl : Bls) (e : RE) : Bool := replT (fun f l s => runW H.K f l s) bl e
noncomputable def HK.repl (H : HK) (bl : Bls) (e : RE) (h : H.rep bl e = true) : HK :=
  ⟨orK (replK bl e) H.K, orF (replF bl e) H.F, or_eq (repl_eq _ _) H.eq, or_upd (repl_upd _ _) H.upd, fun w hT => or_ok (repl_ok (H.sound hT) (repl_of (fun f l s v s' h => runW_spec H.eq h) h)) (H.ok w hT)⟩
noncomputable abbrev HK.srp (H : HK) (bl : Bls) (e : RE) : Bool := srepT (fun f l s => runW H.K f l s) bl e
noncomputable def HK.srep (H : HK) (bl : Bls) (e : RE) (h : H.srp bl e = true) : HK :=
  ⟨orK (srepK bl e) H.K, orF (srepF bl e) H.F, or_eq (srep_eq _ _) H.eq, or_upd (srep_upd _ _) H.upd, fun w hT => or_ok (srep_ok (H.sound hT) (srep_of (fun f l s v s' h => runW_spec H.eq h) h)) (H.ok w hT)⟩
theorem HK.law (H : HK) {f : Nat} {l : List AV} {args : Array Value} (h : isBool true (runW H.K f l s0) = true) (ha : VAs (fun _ => none) l args.toList) (w : World) (hT : Tab w) :
    Calls Tryz.prog f args w fun e w' => Below w.heap.size w w' ∧ e = .returned (.bool true) :=
  (boolW H.eq H.upd h ha w (H.ok w hT)).2
end Go.Proofs.YtjbnkokcbhfdgabGreatDoor
