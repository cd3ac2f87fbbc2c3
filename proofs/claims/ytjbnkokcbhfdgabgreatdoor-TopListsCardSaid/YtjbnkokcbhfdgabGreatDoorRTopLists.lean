/- TopLists: whatever the input, the statement's function returns true; the input reads as it did. The variables math/bits.deBruijn64tab and errors.errorType are tied to the program's text. -/
import Derived.Test.YtjbnkokcbhfdgabGreatDoorLTopLists
import Derived.Test.YtjbnkokcbhfdgabGreatDoorGTopLists
import Derived.Test.YtjbnkokcbhfdgabGreatDoorXvL
import Derived.Test.YtjbnkokcbhfdgabGreatDoorXvJ
import Derived.Test.YtjbnkokcbhfdgabGreatDoorTie
import Derived.Test.YtjbnkokcbhfdgabGreatDoorCards
import Derived.ProofKit
import Derived.OpenShut
import Derived.ChangeSame
import Derived.ChangeVars
import Derived.JoinedOf
import Derived.RowKit
import Derived.RowKitTokens
import Derived.LaidLaws
import Derived.LaidHandle
import Derived.Stop.Joined
import Derived.SevenTiedAt
namespace Go.Proofs.YtjbnkokcbhfdgabGreatDoor.topLists
open Go.ChangeShapes Go.WideShapes Go.ChangeAt Go.RowKit
set_option linter.unusedVariables false

theorem own : ownKnob Tryz.prog.godebug = none := by kernel_rfl

set_option maxRecDepth 100000 in
theorem lifted (os : Os) (started : os.Started) (H : Type) (enc : TypeId × Value → H) :
    ReturnsInHanded {} Tryz.checked os 6 .any (fun w args => (Rows.topListsSpec.pre enc Tryz.prog Tryz.f6 [] false w args ∧ laidMetH Tryz.prog laidL w) ∧ sizedMet enc Tryz.prog Tryz.f6 (OpenSpec.ofChange Rows.topListsSpec) false w args)
      (Rows.topListsSpec.post enc Tryz.prog Tryz.f6 false true false false) := by
  refine returnsInHanded_of_change_and (C := Tryz.checked) (X := fun w _ => laidMetH Tryz.prog laidL w) (fun _ _ _ hh h => h.of_heap hh) own started (by as_aux_lemma => kernel_rfl) Tryz.func6
    (ChangeSpec.witness_at (enc := enc) (C := Tryz.checked) (os := os) (X := fun w _ => laidMetH Tryz.prog laidL w) false (laidWorld os) #[.int .i64 0, .int .i64 0] 8 rfl (by as_aux_lemma => kernel_rfl) (by as_aux_lemma => kernel_rfl) (by as_aux_lemma => kernel_rfl) (by as_aux_lemma => kernel_rfl) (by as_aux_lemma => kernel_rfl) (laidWorld_met os _)) ?_
  intro W base args ds gs before hval0 hW _ _ hL _
  have hval : ∀ (j : Nat) t v, Tryz.f6.params[j]? = some t → args[j]? = some v → Value.okWide Tryz.prog W .any base t v := hval0
  have hW' := hW
  obtain ⟨p, q, hA0, hV0, rfl, hfz, hnd⟩ := hW
  have hA : DataW.TrodAll enc Tryz.prog W 0 (fun _ => true) true Tryz.f6.params.toList args.toList ds p := hA0
  have hV : DataW.TrodVars enc Tryz.prog W (fun _ => true) [] gs q := hV0
  rw [Tryz.params6] at hA hval
  obtain ⟨v0, vs0, d0, ds0, p0, q0, hargs, rfl, rfl, h0, r0⟩ := trodAll_cons hA
  obtain ⟨v1, vs1, d1, ds1, p1, q1, rfl, rfl, rfl, h1, r1⟩ := trodAll_cons r0
  obtain ⟨hnil, rfl, rfl⟩ := trodAll_nil r1
  subst hnil
  obtain rfl : args = #[v0, v1] := by cases args; simp_all
  obtain ⟨n0, rfl, rfl, rfl, hwn0⟩ := open_int Tryz.underlying3 (hval 0 3 v0 rfl rfl) h0
  obtain ⟨n1, rfl, rfl, rfl, hwn1⟩ := open_int Tryz.underlying3 (hval 1 3 v1 rfl rfl) h1
  obtain ⟨rfl, rfl⟩ : gs = [] ∧ q = [] := by
    cases gs with
    | nil => exact ⟨rfl, hV⟩
    | cons g r => exact absurd hV (by intro h; cases h)
  have e1 : Rows.topListsSpec.fn H ([.lit (.int .i64 n0), .lit (.int .i64 n1)] ++ []) = { results := [.lit (.bool true)], args := [.lit (.int .i64 n0), .lit (.int .i64 n1)] } := by simp [Rows.topListsSpec]
  refine (topLists_true W (tab_of_laid hL) n0 n1).mono fun e W' ⟨bel, he⟩ => ?_
  subst he
  refine ⟨_, rfl, _, _, _, [], [], [], hW', ?_, ?_, ?_, bel.frame _, fun h => by cases h⟩
  · rw [e1]; exact trodAll_mk1 (shut_bool Tryz.underlying4 true)
  · rw [e1]; exact (trodAll_cons_mk (shut_int Tryz.underlying3 hwn0) (trodAll_cons_mk (shut_int Tryz.underlying3 hwn1) trodAll_mk0))
  · rw [e1]; rfl

theorem own10 : (Rows.topListsRow.inPlace == Tryz.prog.inPlace 6) = true := by kernel_rfl
theorem own11 : (Rows.topListsRow.unfollowed == Tryz.prog.unfollowed 6) = true := by kernel_rfl
theorem own12 : (Rows.topListsRow.recurses == Tryz.prog.recurses 6) = true := by kernel_rfl
theorem own13 : (Rows.topListsRow.named == Tryz.prog.varsNamed 6) = true := by kernel_rfl
theorem own24b : (Rows.topListsRow.lifted == Tryz.prog.liftsFinal) = true := by rw [pf_lifts]; kernel_rfl
theorem own24c : (Tryz.prog.make == some Rows.topListsRow.make) = true := by rw [pf_make]; kernel_rfl
theorem own22 : (Rows.topListsRow.plainKeys == Tryz.prog.plainKeys) = true := by rw [pf_keys]; rfl
theorem joined : joinedFacts Tryz.prog 6 Tryz.f6 Rows.topListsSpec Rows.topListsRow = true :=
  joined_mk (by as_aux_lemma => kernel_rfl) pf_laid pf_maps (by as_aux_lemma => kernel_rfl) (by as_aux_lemma => kernel_rfl) rfl pf_stops rfl pf_knobs own10 own11 own12 own13
    (by as_aux_lemma => kernel_rfl) (by as_aux_lemma => kernel_rfl) (by as_aux_lemma => kernel_rfl) (by as_aux_lemma => kernel_rfl) (by as_aux_lemma => kernel_rfl) (by as_aux_lemma => kernel_rfl) (by as_aux_lemma => kernel_rfl) (by as_aux_lemma => kernel_rfl) (by as_aux_lemma => kernel_rfl)
    own22 rfl pf_heard pf_enter own24b own24c (by as_aux_lemma => kernel_rfl) (by as_aux_lemma => kernel_rfl) (by as_aux_lemma => kernel_rfl) (by as_aux_lemma => kernel_rfl)

theorem over : Rows.TopListsSaid :=
  OpenClaim.holds_of_wide 6 Tryz.f6 rfl rfl rfl rfl rfl rfl rfl ⟨rfl, rfl, rfl, rfl, rfl⟩ rfl rfl rfl rfl rfl (by as_aux_lemma => kernel_rfl) Tryz.func6 joined
    (of_decide_eq_true (by as_aux_lemma => kernel_rfl)) (by unfold Func.isWrapper; rw [if_neg (of_decide_eq_false (by as_aux_lemma => kernel_rfl))]; exact ⟨rfl, rfl⟩)
    (fun os started H enc _ => lifted os started H enc)

theorem hal : ∀ D ∈ ([] : List (List PathCond)), (Rows.topListsRow.withDomain D).holds Tryz.pinned (OpenSpec.ofChange Rows.topListsSpec) := fun _ h => absurd h List.not_mem_nil
theorem hwf : Rows.topListsRow.wfByText (OpenSpec.ofChange Rows.topListsSpec) = true := by kernel_rfl
theorem hwal : ∀ D ∈ ([] : List (List PathCond)), (Rows.topListsRow.withDomain D).wfByText (OpenSpec.ofChange Rows.topListsSpec) = true := fun _ h => absurd h List.not_mem_nil
theorem hmain : Tryz.pinned.checked.prog.mainIs = some (((true, "1ebe1786ce95887cfce0d21bed5e134d8ffdad449a4d3b290782a9bada2b452f") : Bool × String).1, ((true, "1ebe1786ce95887cfce0d21bed5e134d8ffdad449a4d3b290782a9bada2b452f") : Bool × String).2.toList) := by kernel_rfl
theorem hlooks : true = Tryz.prog.looks [] := by kernel_rfl
theorem hname : Tryz.prog.funcNamed "haruspex/haruspextop.TopLists" = some 6 := by kernel_rfl

/-- The statement: the tied card. -/
theorem proved : Rows.TopListsCardSaid :=
  Claim7.holds_tied_plain_at .later [] [.data, .handle] true (true, "1ebe1786ce95887cfce0d21bed5e134d8ffdad449a4d3b290782a9bada2b452f") true
    over hal hwf hwal topLists_row_tie rfl ⟨rfl, rfl⟩ hmain rfl
    (fun f fn hf hfn => by
      obtain rfl : f = 6 := Option.some.inj (hname.symm.trans hf) |>.symm
      obtain rfl : fn = Tryz.f6 := (Option.some.inj (Tryz.func6.symm.trans hfn)).symm
      exact ⟨hlooks, fun j t ht => by
        rw [Tryz.params6] at ht
        rcases j with _ | j
        · obtain rfl : t = 3 := by simpa using ht.symm
          exact (show Tryz.prog.wantsStandIn 3 = false by as_aux_lemma => kernel_rfl)
        rcases j with _ | j
        · obtain rfl : t = 3 := by simpa using ht.symm
          exact (show Tryz.prog.wantsStandIn 3 = false by as_aux_lemma => kernel_rfl)
        exact absurd ht (by simp)⟩)
    hgoes
end Go.Proofs.YtjbnkokcbhfdgabGreatDoor.topLists
