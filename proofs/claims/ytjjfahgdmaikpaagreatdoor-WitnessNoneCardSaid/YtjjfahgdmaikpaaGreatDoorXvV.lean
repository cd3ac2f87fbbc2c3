/- Two hooks in a row; what the condition gives of the handle. -/
import Derived.Test.YtjjfahgdmaikpaaGreatDoorXvU
import Derived.Test.YtjjfahgdmaikpaaGreatDoorXvL
namespace Go.Proofs.YtjjfahgdmaikpaaGreatDoor
open Go Go.RowKit Ev
set_option linter.unusedVariables false

theorem han_et : Tryz.prog.globalNamed "errors.errorType" = some 1 := by kernel_rfl
theorem han_rt : (Tryz.prog.cutTypes.find? (·.1 == "internal/reflectlite.rtype")).map (·.2) = some 370 := by kernel_rfl
theorem han_row : ((List.range 410).filter fun t => Tryz.prog.rowNamed t [101, 114, 114, 111, 114]) = [167] := by kernel_rfl
theorem han_size : Tryz.prog.types.size = 410 := by kernel_rfl
theorem han_of_laid {w : World} (h : laidMetH Tryz.prog laidL w) : Ev.Han w := by
  have h1 := (laidMetH_iff.1 h).2
  obtain ⟨name, u, ty, e1, e2, e3, e4, e5⟩ := h1 ("errors.errorType", Rows.laid_errors_errorType) (by exact List.mem_singleton.2 rfl)
  have en : name = [101, 114, 114, 111, 114] := (Option.some.inj e1).symm
  subst en
  obtain rfl := Option.some.inj (han_rt.symm.trans e2)
  have hm : ty ∈ (List.range 410).filter fun t => Tryz.prog.rowNamed t [101, 114, 114, 111, 114] := List.mem_filter.2 ⟨List.mem_range.2 (by rw [← han_size]; exact e3), e4⟩
  rw [han_row] at hm
  obtain rfl := List.mem_singleton.1 hm
  have hh : typeHandle Tryz.prog 167 = .pointer (some ⟨2, 167, none⟩) := by kernel_rfl
  rw [hh] at e5
  have := World.var?_cell han_et e5 0
  simpa [Ev.Han] using this
namespace Ev
def orF (a b : CallF) : CallF := fun f l s => orE (a f l s) (b f l s)
noncomputable def orK (a b : CallK) : CallK := fun f l s => Option.rec (motive := fun _ => Option (AV × StK)) (b f l s) (fun r => some r) (a f l s)
theorem or_eq {a b : CallK} {a' b' : CallF} (h : CallEq a a') (k : CallEq b b') : CallEq (orK a b) (orF a' b') := by
  intro f l s
  unfold orK orF
  rw [← h f l s, ← k f l s]
  cases a f l s <;> rfl
theorem or_upd {a b : CallF} (h : CallUpd a) (k : CallUpd b) : CallUpd (orF a b) := by
  intro f l s v s' hc ht
  unfold orF orE at hc
  cases e : a f l s with
  | some r => rw [e] at hc; cases hc; exact h f l s v s' e ht
  | none => rw [e] at hc; exact k f l s v s' hc ht
theorem or_ok {P : Program} {K : Nat → Option Obj} {a b : CallF} (h : CallOk P K a) (k : CallOk P K b) : CallOk P K (orF a b) := by
  intro f l s v s' hc
  unfold orF orE at hc
  cases e : a f l s with
  | some r => rw [e] at hc; cases hc; exact h f l s v s' e
  | none => rw [e] at hc; exact k f l s v s' hc
theorem as_okw {w : World} (hT : Han w) : CallOk Tryz.prog (keptOf w) asF := as_ok fun φ w' h => hT.kept h.row
end Ev
end Go.Proofs.YtjjfahgdmaikpaaGreatDoor
