/- FlowLess: whatever the input, the statement's function returns true; the input reads as it did. The variables math/bits.deBruijn64tab and errors.errorType are tied to the program's text. -/
import Derived.Test.YtjbnkokcbhfdgabGreatDoorLFlowLess
import Derived.Test.YtjbnkokcbhfdgabGreatDoorXvL
import Derived.Test.YtjbnkokcbhfdgabGreatDoorXvJ
import Derived.Test.YtjbnkokcbhfdgabGreatDoorTie
import Derived.Test.YtjbnkokcbhfdgabGreatDoorCards
import Derived.ProofKit
import Derived.OpenShut
import Derived.ChangeSame
import Derived.ChangeVars
import Derived.JoinedOf
import Derived.RowKit
import Derived.RowKitTokens
import Derived.LaidLaws
import Derived.LaidHandle
import Derived.Stop.Joined
import Derived.SevenTiedAt
namespace Go.Proofs.YtjbnkokcbhfdgabGreatDoor.flowLess
open Go.ChangeShapes Go.WideShapes Go.ChangeAt Go.RowKit
set_option linter.unusedVariables false

theorem own : ownKnob Tryz.prog.godebug = none := by kernel_rfl

set_option maxRecDepth 100000 in
theorem lifted (os : Os) (started : os.Started) (H : Type) (enc : TypeId × Value → H) :
    ReturnsInHanded {} Tryz.checked os 4 .any (fun w args => (Rows.flowLessSpec.pre enc Tryz.prog Tryz.f4 [] false w args ∧ laidMetH Tryz.prog laidL w) ∧ sizedMet enc Tryz.prog Tryz.f4 (OpenSpec.ofChange Rows.flowLessSpec) false w args)
      (Rows.flowLessSpec.post enc Tryz.prog Tryz.f4 false true false false) := by
  refine returnsInHanded_of_change_and (C := Tryz.checked) (X := fun w _ => laidMetH Tryz.prog laidL w) (fun _ _ _ hh h => h.of_heap hh) own started (by as_aux_lemma => kernel_rfl) Tryz.func4
    (ChangeSpec.witness_at (enc := enc) (C := Tryz.checked) (os := os) (X := fun w _ => laidMetH Tryz.prog laidL w) false (laidWorld os) #[.agg #[.int .i64 0, .int .i64 0, .int .i64 0, .int .i64 0, .int .i64 0], .agg #[.int .i64 0, .int .i64 0, .int .i64 0, .int .i64 0, .int .i64 0], .agg #[.int .i64 0, .int .i64 0, .int .i64 0, .int .i64 0, .int .i64 0]] 8 rfl (by as_aux_lemma => kernel_rfl) (by as_aux_lemma => kernel_rfl) (by as_aux_lemma => kernel_rfl) (by as_aux_lemma => kernel_rfl) (by as_aux_lemma => kernel_rfl) (laidWorld_met os _)) ?_
  intro W base args ds gs before hval0 hW _ _ hL _
  have hval : ∀ (j : Nat) t v, Tryz.f4.params[j]? = some t → args[j]? = some v → Value.okWide Tryz.prog W .any base t v := hval0
  have hW' := hW
  obtain ⟨p, q, hA0, hV0, rfl, hfz, hnd⟩ := hW
  have hA : DataW.TrodAll enc Tryz.prog W 0 (fun _ => true) true Tryz.f4.params.toList args.toList ds p := hA0
  have hV : DataW.TrodVars enc Tryz.prog W (fun _ => true) [] gs q := hV0
  rw [Tryz.params4] at hA hval
  obtain ⟨v0, vs0, d0, ds0, p0, q0, hargs, rfl, rfl, h0, r0⟩ := trodAll_cons hA
  obtain ⟨v1, vs1, d1, ds1, p1, q1, rfl, rfl, rfl, h1, r1⟩ := trodAll_cons r0
  obtain ⟨v2, vs2, d2, ds2, p2, q2, rfl, rfl, rfl, h2, r2⟩ := trodAll_cons r1
  obtain ⟨hnil, rfl, rfl⟩ := trodAll_nil r2
  subst hnil
  obtain rfl : args = #[v0, v1, v2] := by cases args; simp_all
  obtain ⟨n0, rfl, rfl, rfl, hwn0⟩ := open_place (hval 0 52 v0 rfl rfl) h0
  obtain ⟨n1, rfl, rfl, rfl, hwn1⟩ := open_place (hval 1 52 v1 rfl rfl) h1
  obtain ⟨n2, rfl, rfl, rfl, hwn2⟩ := open_place (hval 2 52 v2 rfl rfl) h2
  obtain ⟨rfl, rfl⟩ : gs = [] ∧ q = [] := by
    cases gs with
    | nil => exact ⟨rfl, hV⟩
    | cons g r => exact absurd hV (by intro h; cases h)
  have e1 : Rows.flowLessSpec.fn H ([n0.d, n1.d, n2.d] ++ []) = { results := [.lit (.bool true)], args := [n0.d, n1.d, n2.d] } := by simp [Rows.flowLessSpec]
  refine (flowLess_true W (tab_of_laid hL) n0 n1 n2).mono fun e W' ⟨bel, he⟩ => ?_
  subst he
  refine ⟨_, rfl, _, _, _, [], [], [], hW', ?_, ?_, ?_, bel.frame _, fun h => by cases h⟩
  · rw [e1]; exact trodAll_mk1 (shut_bool Tryz.underlying4 true)
  · rw [e1]; exact (trodAll_cons_mk (shut_place hwn0) (trodAll_cons_mk (shut_place hwn1) (trodAll_cons_mk (shut_place hwn2) trodAll_mk0)))
  · rw [e1]; rfl

theorem own10 : (Rows.flowLessRow.inPlace == Tryz.prog.inPlace 4) = true := by kernel_rfl
theorem own11 : (Rows.flowLessRow.unfollowed == Tryz.prog.unfollowed 4) = true := by kernel_rfl
theorem own12 : (Rows.flowLessRow.recurses == Tryz.prog.recurses 4) = true := by kernel_rfl
theorem own13 : (Rows.flowLessRow.named == Tryz.prog.varsNamed 4) = true := by kernel_rfl
theorem own24b : (Rows.flowLessRow.lifted == Tryz.prog.liftsFinal) = true := by rw [pf_lifts]; kernel_rfl
theorem own24c : (Tryz.prog.make == some Rows.flowLessRow.make) = true := by rw [pf_make]; kernel_rfl
theorem own22 : (Rows.flowLessRow.plainKeys == Tryz.prog.plainKeys) = true := by rw [pf_keys]; rfl
theorem joined : joinedFacts Tryz.prog 4 Tryz.f4 Rows.flowLessSpec Rows.flowLessRow = true :=
  joined_mk (by as_aux_lemma => kernel_rfl) pf_laid pf_maps (by as_aux_lemma => kernel_rfl) (by as_aux_lemma => kernel_rfl) rfl pf_stops rfl pf_knobs own10 own11 own12 own13
    (by as_aux_lemma => kernel_rfl) (by as_aux_lemma => kernel_rfl) (by as_aux_lemma => kernel_rfl) (by as_aux_lemma => kernel_rfl) (by as_aux_lemma => kernel_rfl) (by as_aux_lemma => kernel_rfl) (by as_aux_lemma => kernel_rfl) (by as_aux_lemma => kernel_rfl) (by as_aux_lemma => kernel_rfl)
    own22 rfl pf_heard pf_enter own24b own24c (by as_aux_lemma => kernel_rfl) (by as_aux_lemma => kernel_rfl) (by as_aux_lemma => kernel_rfl) (by as_aux_lemma => kernel_rfl)

theorem over : Rows.FlowLessSaid :=
  OpenClaim.holds_of_wide 4 Tryz.f4 rfl rfl rfl rfl rfl rfl rfl ⟨rfl, rfl, rfl, rfl, rfl⟩ rfl rfl rfl rfl rfl (by as_aux_lemma => kernel_rfl) Tryz.func4 joined
    (of_decide_eq_true (by as_aux_lemma => kernel_rfl)) (by unfold Func.isWrapper; rw [if_neg (of_decide_eq_false (by as_aux_lemma => kernel_rfl))]; exact ⟨rfl, rfl⟩)
    (fun os started H enc _ => lifted os started H enc)

theorem hal : ∀ D ∈ ([] : List (List PathCond)), (Rows.flowLessRow.withDomain D).holds Tryz.pinned (OpenSpec.ofChange Rows.flowLessSpec) := fun _ h => absurd h List.not_mem_nil
theorem hwf : Rows.flowLessRow.wfByText (OpenSpec.ofChange Rows.flowLessSpec) = true := by kernel_rfl
theorem hwal : ∀ D ∈ ([] : List (List PathCond)), (Rows.flowLessRow.withDomain D).wfByText (OpenSpec.ofChange Rows.flowLessSpec) = true := fun _ h => absurd h List.not_mem_nil
theorem hmain : Tryz.pinned.checked.prog.mainIs = some (((true, "1ebe1786ce95887cfce0d21bed5e134d8ffdad449a4d3b290782a9bada2b452f") : Bool × String).1, ((true, "1ebe1786ce95887cfce0d21bed5e134d8ffdad449a4d3b290782a9bada2b452f") : Bool × String).2.toList) := by kernel_rfl
theorem hlooks : true = Tryz.prog.looks [] := by kernel_rfl
theorem hgoes : false = Rows.flowLessRow.goesBy Tryz.prog := by kernel_rfl
theorem hname : Tryz.prog.funcNamed "haruspex/haruspexlaw23.FlowLess" = some 4 := by kernel_rfl

/-- The statement: the tied card. -/
theorem proved : Rows.FlowLessCardSaid :=
  Claim7.holds_tied_plain_at .later [] [.data, .handle] true (true, "1ebe1786ce95887cfce0d21bed5e134d8ffdad449a4d3b290782a9bada2b452f") true
    over hal hwf hwal flowLess_row_tie rfl ⟨rfl, rfl⟩ hmain rfl
    (fun f fn hf hfn => by
      obtain rfl : f = 4 := Option.some.inj (hname.symm.trans hf) |>.symm
      obtain rfl : fn = Tryz.f4 := (Option.some.inj (Tryz.func4.symm.trans hfn)).symm
      exact ⟨hlooks, fun j t ht => by
        rw [Tryz.params4] at ht
        rcases j with _ | j
        · obtain rfl : t = 52 := by simpa using ht.symm
          exact (show Tryz.prog.wantsStandIn 52 = false by as_aux_lemma => kernel_rfl)
        rcases j with _ | j
        · obtain rfl : t = 52 := by simpa using ht.symm
          exact (show Tryz.prog.wantsStandIn 52 = false by as_aux_lemma => kernel_rfl)
        rcases j with _ | j
        · obtain rfl : t = 52 := by simpa using ht.symm
          exact (show Tryz.prog.wantsStandIn 52 = false by as_aux_lemma => kernel_rfl)
        exact absurd ht (by simp)⟩)
    hgoes
end Go.Proofs.YtjbnkokcbhfdgabGreatDoor.flowLess
