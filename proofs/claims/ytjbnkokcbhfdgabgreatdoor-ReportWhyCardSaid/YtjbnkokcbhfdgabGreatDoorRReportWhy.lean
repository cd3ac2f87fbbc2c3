/- ReportWhy: whatever the input, the statement's function returns true; the input reads as it did. The variables math/bits.deBruijn64tab and errors.errorType are tied to the program's text. -/
import Derived.Test.YtjbnkokcbhfdgabGreatDoorLReportWhy
import Derived.Test.YtjbnkokcbhfdgabGreatDoorGReportWhy
import Derived.Test.YtjbnkokcbhfdgabGreatDoorXvL4
import Derived.Test.YtjbnkokcbhfdgabGreatDoorXvJ
import Derived.Test.YtjbnkokcbhfdgabGreatDoorTie
import Derived.Test.YtjbnkokcbhfdgabGreatDoorCards
import Derived.ProofKit
import Derived.OpenShut
import Derived.ChangeSame
import Derived.ChangeVars
import Derived.JoinedOf
import Derived.RowKit
import Derived.RowKitTokens
import Derived.LaidLaws
import Derived.LaidHandle
import Derived.Stop.Joined
import Derived.SevenTiedAt
namespace Go.Proofs.YtjbnkokcbhfdgabGreatDoor.reportWhy
open Go.ChangeShapes Go.WideShapes Go.ChangeAt Go.RowKit
set_option linter.unusedVariables false

theorem own : ownKnob Tryz.prog.godebug = none := by kernel_rfl

set_option maxRecDepth 100000 in
theorem lifted (os : Os) (started : os.Started) (H : Type) (enc : TypeId × Value → H) :
    ReturnsInHanded {} Tryz.checked os 5 .any (fun w args => (Rows.reportWhySpec.pre enc Tryz.prog Tryz.f5 [] false w args ∧ laidMetH Tryz.prog laidL4 w) ∧ sizedMet enc Tryz.prog Tryz.f5 (OpenSpec.ofChange Rows.reportWhySpec) false w args)
      (Rows.reportWhySpec.post enc Tryz.prog Tryz.f5 false true false false) := by
  refine returnsInHanded_of_change_and (C := Tryz.checked) (X := fun w _ => laidMetH Tryz.prog laidL4 w) (fun _ _ _ hh h => h.of_heap hh) own started (by as_aux_lemma => kernel_rfl) Tryz.func5
    (ChangeSpec.witness_at (enc := enc) (C := Tryz.checked) (os := os) (X := fun w _ => laidMetH Tryz.prog laidL4 w) false (laidWorld4 os) #[.int .i64 0] 8 rfl (by as_aux_lemma => kernel_rfl) (by as_aux_lemma => kernel_rfl) (by as_aux_lemma => kernel_rfl) (by as_aux_lemma => kernel_rfl) (by as_aux_lemma => kernel_rfl) (laidWorld4_met os _)) ?_
  intro W base args ds gs before hval0 hW _ _ hL _
  have hval : ∀ (j : Nat) t v, Tryz.f5.params[j]? = some t → args[j]? = some v → Value.okWide Tryz.prog W .any base t v := hval0
  have hW' := hW
  obtain ⟨p, q, hA0, hV0, rfl, hfz, hnd⟩ := hW
  have hA : DataW.TrodAll enc Tryz.prog W 0 (fun _ => true) true Tryz.f5.params.toList args.toList ds p := hA0
  have hV : DataW.TrodVars enc Tryz.prog W (fun _ => true) [] gs q := hV0
  rw [Tryz.params5] at hA hval
  obtain ⟨v0, vs0, d0, ds0, p0, q0, hargs, rfl, rfl, h0, r0⟩ := trodAll_cons hA
  obtain ⟨hnil, rfl, rfl⟩ := trodAll_nil r0
  subst hnil
  obtain rfl : args = #[v0] := by cases args; simp_all
  obtain ⟨n0, rfl, rfl, rfl, hwn0⟩ := open_int Tryz.underlying3 (hval 0 3 v0 rfl rfl) h0
  obtain ⟨rfl, rfl⟩ : gs = [] ∧ q = [] := by
    cases gs with
    | nil => exact ⟨rfl, hV⟩
    | cons g r => exact absurd hV (by intro h; cases h)
  have e1 : Rows.reportWhySpec.fn H ([.lit (.int .i64 n0)] ++ []) = { results := [.lit (.bool true)], args := [.lit (.int .i64 n0)] } := by simp [Rows.reportWhySpec]
  refine (reportWhy_true W hL n0).mono fun e W' ⟨bel, he⟩ => ?_
  subst he
  refine ⟨_, rfl, _, _, _, [], [], [], hW', ?_, ?_, ?_, bel.frame _, fun h => by cases h⟩
  · rw [e1]; exact trodAll_mk1 (shut_bool Tryz.underlying4 true)
  · rw [e1]; exact (trodAll_cons_mk (shut_int Tryz.underlying3 hwn0) trodAll_mk0)
  · rw [e1]; rfl

theorem own10 : (Rows.reportWhyRow.inPlace == Tryz.prog.inPlace 5) = true := by kernel_rfl
theorem own11 : (Rows.reportWhyRow.unfollowed == Tryz.prog.unfollowed 5) = true := by kernel_rfl
theorem own12 : (Rows.reportWhyRow.recurses == Tryz.prog.recurses 5) = true := by kernel_rfl
theorem own13 : (Rows.reportWhyRow.named == Tryz.prog.varsNamed 5) = true := by kernel_rfl
theorem own24b : (Rows.reportWhyRow.lifted == Tryz.prog.liftsFinal) = true := by rw [pf_lifts]; kernel_rfl
theorem own24c : (Tryz.prog.make == some Rows.reportWhyRow.make) = true := by rw [pf_make]; kernel_rfl
theorem own22 : (Rows.reportWhyRow.plainKeys == Tryz.prog.plainKeys) = true := by rw [pf_keys]; rfl
theorem joined : joinedFacts Tryz.prog 5 Tryz.f5 Rows.reportWhySpec Rows.reportWhyRow = true :=
  joined_mk (by as_aux_lemma => kernel_rfl) pf_laid pf_maps (by as_aux_lemma => kernel_rfl) (by as_aux_lemma => kernel_rfl) rfl pf_stops rfl pf_knobs own10 own11 own12 own13
    (by as_aux_lemma => kernel_rfl) (by as_aux_lemma => kernel_rfl) (by as_aux_lemma => kernel_rfl) (by as_aux_lemma => kernel_rfl) (by as_aux_lemma => kernel_rfl) (by as_aux_lemma => kernel_rfl) (by as_aux_lemma => kernel_rfl) (by as_aux_lemma => kernel_rfl) (by as_aux_lemma => kernel_rfl)
    own22 rfl pf_heard pf_enter own24b own24c (by as_aux_lemma => kernel_rfl) (by as_aux_lemma => kernel_rfl) (by as_aux_lemma => kernel_rfl) (by as_aux_lemma => kernel_rfl)

theorem over : Rows.ReportWhySaid :=
  OpenClaim.holds_of_wide 5 Tryz.f5 rfl rfl rfl rfl rfl rfl rfl ⟨rfl, rfl, rfl, rfl, rfl⟩ rfl rfl rfl rfl rfl (by as_aux_lemma => kernel_rfl) Tryz.func5 joined
    (of_decide_eq_true (by as_aux_lemma => kernel_rfl)) (by unfold Func.isWrapper; rw [if_neg (of_decide_eq_false (by as_aux_lemma => kernel_rfl))]; exact ⟨rfl, rfl⟩)
    (fun os started H enc _ => lifted os started H enc)

theorem hal : ∀ D ∈ ([] : List (List PathCond)), (Rows.reportWhyRow.withDomain D).holds Tryz.pinned (OpenSpec.ofChange Rows.reportWhySpec) := fun _ h => absurd h List.not_mem_nil
theorem hwf : Rows.reportWhyRow.wfByText (OpenSpec.ofChange Rows.reportWhySpec) = true := by kernel_rfl
theorem hwal : ∀ D ∈ ([] : List (List PathCond)), (Rows.reportWhyRow.withDomain D).wfByText (OpenSpec.ofChange Rows.reportWhySpec) = true := fun _ h => absurd h List.not_mem_nil
theorem hmain : Tryz.pinned.checked.prog.mainIs = some (((true, "1ebe1786ce95887cfce0d21bed5e134d8ffdad449a4d3b290782a9bada2b452f") : Bool × String).1, ((true, "1ebe1786ce95887cfce0d21bed5e134d8ffdad449a4d3b290782a9bada2b452f") : Bool × String).2.toList) := by kernel_rfl
theorem hlooks : true = Tryz.prog.looks [] := by kernel_rfl
theorem hname : Tryz.prog.funcNamed "haruspex/haruspexlaw27.ReportWhy" = some 5 := by kernel_rfl

/-- The statement: the tied card. -/
theorem proved : Rows.ReportWhyCardSaid :=
  Claim7.holds_tied_plain_at .later [] [.data, .data, .data, .handle] true (true, "1ebe1786ce95887cfce0d21bed5e134d8ffdad449a4d3b290782a9bada2b452f") true
    over hal hwf hwal reportWhy_row_tie rfl ⟨rfl, rfl⟩ hmain rfl
    (fun f fn hf hfn => by
      obtain rfl : f = 5 := Option.some.inj (hname.symm.trans hf) |>.symm
      obtain rfl : fn = Tryz.f5 := (Option.some.inj (Tryz.func5.symm.trans hfn)).symm
      exact ⟨hlooks, fun j t ht => by
        rw [Tryz.params5] at ht
        rcases j with _ | j
        · obtain rfl : t = 3 := by simpa using ht.symm
          exact (show Tryz.prog.wantsStandIn 3 = false by as_aux_lemma => kernel_rfl)
        exact absurd ht (by simp)⟩)
    hgoes
end Go.Proofs.YtjbnkokcbhfdgabGreatDoor.reportWhy
