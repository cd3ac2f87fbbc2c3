/- TraceFuel: the machine's states, and what the calls of a round do with them. -/
import Derived.Test.YtibgakbkdonjcaaGreatDoorTF1
namespace Go.Proofs.YtibgakbkdonjcaaGreatDoor
open Go.RowKit Go.Maps Go.ChangeMaps Go.MapKept Ev
set_option linter.unusedVariables false
set_option maxRecDepth 100000

noncomputable def rA : Option (AV × StK) := run 29 [pv mId] sM
noncomputable def sA : StK := stOf sM rA
noncomputable def rB : Option (AV × StK) := run 29 [pv mId] sA
noncomputable def sB : StK := stOf sA rB
noncomputable def rC : Option (AV × StK) := run 29 [pv mId] sB
noncomputable def sC : StK := stOf sB rC
noncomputable def hId : Nat := numOf (vOf (run 27 [pv mId] sM))

theorem step_facts : (rA.isSome && intIs 0 (vOf rA) && (rB.isSome && intIs 0 (vOf rB) && (rC.isSome && intIs 0 (vOf rC) && backOk sA sC))) = true := by kernel_rfl

noncomputable def chkGet (f : Nat) (a : AV) (p : AV → Bool) (s : StK) : Bool :=
  match run f [a] s with
  | some (v, s') => p v && backOk s s'
  | none => false
def isI : AV → Bool
  | .v (.c (.int k _)) => beqKind k .i64
  | _ => false
def isF : AV → Bool
  | .v (.c (.bool b)) => beqB b false
  | _ => false
noncomputable def getsOk (s : StK) : Bool :=
  chkGet 26 (pv mId) isI s && (chkGet 27 (pv mId) (ptrIs hId) s && (chkGet 28 (pv hId) (intIs 0) s &&
    (chkGet 30 (pv mId) (intIs (-1)) s && chkGet 31 (pv mId) isF s)))
theorem gets_M : getsOk sM = true := by kernel_rfl
theorem gets_A : getsOk sA = true := by kernel_rfl
theorem gets_B : getsOk sB = true := by kernel_rfl
theorem back_P : (backOk sP sM && (backOk sP sA && backOk sP sB)) = true := by kernel_rfl
theorem mid_lt : Nat.blt mId sA.n = true := by kernel_rfl
theorem mid_lt' : Nat.blt mId sM.n = true := by kernel_rfl
end Go.Proofs.YtibgakbkdonjcaaGreatDoor
