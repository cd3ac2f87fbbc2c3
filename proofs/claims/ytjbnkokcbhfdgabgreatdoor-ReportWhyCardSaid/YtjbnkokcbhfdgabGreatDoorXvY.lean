/- bytes.Equal, and strconv.Itoa at nought, as hooks of the evaluator. -/
import Derived.Test.YtjbnkokcbhfdgabGreatDoorXvV
import Derived.WalkKit
import Derived.Laws.BytesArg
namespace Go.Proofs.YtjbnkokcbhfdgabGreatDoor
open Go.RowKit Go.Extern
set_option linter.unusedVariables false

theorem equal_calls (v1 v2 : Value) (x y : ByteArray) (w : World) (h1 : (convert 68 9 v1).run Tryz.prog w = .ok (.string x) w) (h2 : (convert 68 9 v2).run Tryz.prog w = .ok (.string y) w) :
    Calls Tryz.prog 200 #[v1, v2] w fun e w' => e = .returned (.bool (x.toList == y.toList)) ∧ w' = w := by
  go_enter Tryz.func200, Tryz.ntmps200
  go_wp2
  go_ret
  exact ⟨rfl, rfl⟩
theorem small_nought (w : World) : Calls Tryz.prog 344 #[.int .i64 0] w fun e w' => e = .returned (.string ⟨#[48]⟩) ∧ w' = w := by
  go_enter Tryz.func344, Tryz.ntmps344
  go_wp2
  go_ret
  exact ⟨by rfl, rfl⟩
theorem format_nought (w : World) : Calls Tryz.prog 256 #[.int .i64 0, .int .i64 10] w fun e w' => e = .returned (.string ⟨#[48]⟩) ∧ w' = w := by
  go_enter Tryz.func256, Tryz.ntmps256
  go_wp2_with (go_at_call 344; refine (small_nought _).mono ?_; rintro e w' ⟨rfl, rfl⟩)
  go_ret
  exact ⟨rfl, rfl⟩
theorem itoa_in (w : World) : Calls Tryz.prog 176 #[.int .i64 0] w fun e w' => e = .returned (.string ⟨#[48]⟩) ∧ w' = w := by
  go_enter Tryz.func176, Tryz.ntmps176
  go_wp2_with (go_at_call 256; refine (format_nought _).mono ?_; rintro e w' ⟨rfl, rfl⟩)
  go_ret
  exact ⟨rfl, rfl⟩
theorem itoa_nought (w : World) : Calls Tryz.prog 109 #[.int .i64 0] w fun e w' => e = .returned (.string ⟨#[48]⟩) ∧ w' = w := by
  go_enter Tryz.func109, Tryz.ntmps109
  go_wp2_with (go_at_call 176; refine (itoa_in _).mono ?_; rintro e w' ⟨rfl, rfl⟩)
  go_ret
  exact ⟨rfl, rfl⟩

namespace Ev
open Go Go.RowKit Go.Proofs
def itArg (l : List AV) : Option Nat := match l with
  | [.v (.c (.int k (.ofNat n)))] => chk (beqKind .i64 k) (chk (Nat.beq n 0) (some n))
  | _ => none
def itF : CallF := fun f l s => chk (Nat.beq f 109) ((itArg l).bind fun _ => some (.v (.c (.str ⟨#[48]⟩)), s))
noncomputable def itK : CallK := fun f l s => ib (Nat.beq f 109) (ob (itArg l) fun _ => some (.v (.c (.str ⟨#[48]⟩)), s)) none
theorem it_eq : CallEq itK itF := by
  intro f l s
  simp only [itK, itF, ib_eq, ob_eq, map_chk, map_bind']
  rfl
theorem it_upd : CallUpd itF := by
  intro f l s v s' h _
  simp only [itF, chk_some, Option.bind_eq_some_iff] at h
  obtain ⟨_, n, _, h⟩ := h
  cases h
  exact Upd.refl s
theorem it_ok {K : Nat → Option Obj} : CallOk Tryz.prog K itF := by
  intro f l s v s' h φ w args hr hK hv
  simp only [itF, chk_some, Option.bind_eq_some_iff] at h
  obtain ⟨hf, n, hn, h⟩ := h
  cases h
  have hf := Nat.eq_of_beq_eq_true hf
  subst hf
  unfold itArg at hn
  split at hn
  · rename_i k m
    simp only [chk_some] at hn
    obtain ⟨h1, h2, h3⟩ := hn
    cases h3
    have := beqKind_eq h1; subst this
    have := Nat.eq_of_beq_eq_true h2; subst this
    have ha : args = #[.int .i64 0] := by
      apply Array.ext'
      cases hl : args.toList with
      | nil => rw [hl] at hv; exact hv.elim
      | cons u us =>
        rw [hl] at hv
        cases us with
        | nil => have : u = _ := hv.1; rw [this]; rfl
        | cons _ _ => exact hv.2.elim
    subst ha
    refine ⟨?_, (itoa_nought w).mono fun e w' ⟨he, hw⟩ => ?_⟩
    · exact callFunc_body Tryz.func109 rfl (of_decide_eq_false (by kernel_rfl))
    · subst hw
      exact ⟨φ, _, Out.refl hr, rfl, he⟩
  · cases hn

/-- numbers of one byte each -/
def u8s : List CV → Option (List Nat)
  | [] => some []
  | .int k (.ofNat n) :: l => chk (beqKind .u8 k) (chk (Nat.blt n 256) ((u8s l).bind fun r => some (n :: r)))
  | _ :: _ => none
def eqN : List Nat → List Nat → Bool
  | [], [] => true
  | a :: l, b :: m => Nat.beq a b && eqN l m
  | _, _ => false
def bqArg (l : List AV) : Option (CV × CV) := match l with
  | [.v (.c a), .v (.c b)] => some (a, b)
  | _ => none
def bytesE (s : St) (v : CV) : Option (List Nat) := (lenOfSlice v).bind fun _ => (cellsOfSlice s 1 v).bind u8s
noncomputable def bytesK (s : StK) (v : CV) : Option (List Nat) := ob (lenOfSlice v) fun _ => ob (cellsK s 1 v) u8s
def bqF : CallF := fun f l s => chk (Nat.beq f 200) ((bqArg l).bind fun p => (bytesE s p.1).bind fun x => (bytesE s p.2).bind fun y => some (.v (.c (.bool (eqN x y))), s))
noncomputable def bqK : CallK := fun f l s => ib (Nat.beq f 200) (ob (bqArg l) fun p => ob (bytesK s p.1) fun x => ob (bytesK s p.2) fun y => some (.v (.c (.bool (eqN x y))), s)) none
theorem bytesK_eq (s : StK) (v : CV) : bytesK s v = bytesE (absS s) v := by
  simp only [bytesK, bytesE, ob_eq, cellsK_eq]
theorem bq_eq : CallEq bqK bqF := by
  intro f l s
  simp only [bqK, bqF, ib_eq, ob_eq, map_chk, map_bind', bytesK_eq]
  rfl
theorem bq_upd : CallUpd bqF := by
  intro f l s v s' h _
  simp only [bqF, chk_some, Option.bind_eq_some_iff] at h
  obtain ⟨_, p, _, x, _, y, _, h⟩ := h
  cases h
  exact Upd.refl s
theorem u8s_vals {φ : Mp} : ∀ {cs : List CV} {ns : List Nat} {us : List Value}, u8s cs = some ns → VL φ cs us → us = ns.map (fun n => .int .u8 (n : Int)) ∧ ∀ n ∈ ns, n < 256
  | [], ns, [], h, _ => by cases h; exact ⟨rfl, fun n h => by cases h⟩
  | c :: cs, ns, u :: us, h, ⟨hv, hv'⟩ => by
    unfold u8s at h
    split at h
    · rename_i heq; cases heq
    · rename_i k n l heq
      cases heq
      simp only [chk_some, Nat.blt_eq, Option.bind_eq_some_iff, Option.some.injEq] at h
      obtain ⟨h1, h2, r, h3, rfl⟩ := h
      have := beqKind_eq h1; subst this
      obtain ⟨e1, e2⟩ := u8s_vals h3 hv'
      have hv : u = .int .u8 (.ofNat n) := hv
      subst hv
      refine ⟨by rw [e1]; rfl, fun m hm => ?_⟩
      rcases List.mem_cons.1 hm with rfl | hm
      · exact h2
      · exact e2 m hm
    · cases h
theorem eqN_eq : ∀ {a b : List Nat}, (∀ n ∈ a, n < 256) → (∀ n ∈ b, n < 256) → ((a.map fun n => UInt8.ofNat n) == (b.map fun n => UInt8.ofNat n)) = eqN a b
  | [], [], _, _ => rfl
  | [], _ :: _, _, _ => rfl
  | _ :: _, [], _, _ => rfl
  | x :: a, y :: b, h1, h2 => by
    simp only [List.map_cons, List.cons_beq_cons, eqN, eqN_eq (fun n hn => h1 n (List.mem_cons_of_mem _ hn)) (fun n hn => h2 n (List.mem_cons_of_mem _ hn))]
    congr 1
    have a1 := h1 x List.mem_cons_self
    have a2 := h2 y List.mem_cons_self
    rw [Bool.eq_iff_iff, beq_iff_eq, Nat.beq_eq]
    refine ⟨fun e => ?_, fun e => by rw [e]⟩
    have := congrArg UInt8.toNat e
    rw [UInt8.toNat_ofNat', UInt8.toNat_ofNat', Nat.mod_eq_of_lt a1, Nat.mod_eq_of_lt a2] at this
    exact this
theorem bytes_conv {φ : Mp} {s : St} {w : World} (hr : Rel φ s w) {v : CV} {u : Value} {ns : List Nat} (hv : VC φ v u) (h : bytesE s v = some ns) :
    (convert 68 9 u).run Tryz.prog w = .ok (.string (strOfNums (ns.map fun (n : Nat) => (n : Int)))) w ∧ ∀ n ∈ ns, n < 256 := by
  simp only [bytesE, Option.bind_eq_some_iff] at h
  obtain ⟨k, h1, cs, h2, h3⟩ := h
  obtain ⟨us, hl, hn, hx⟩ := slice_is (P := Tryz.prog) hr hv h2 h1
  obtain ⟨e1, e2⟩ := u8s_vals h3 hl
  refine ⟨?_, e2⟩
  rcases hx with ⟨rfl, rfl⟩ | ⟨r, o, c, rfl, hrg⟩
  · have hz : ns = [] := by
      have : us.length = 0 := by simpa using hn
      rw [e1] at this
      simpa using this
    subst hz
    exact run_convert_bytes_nil w 68 5 Tryz.underlying68 Tryz.underlying5 0 0 9 Tryz.underlying9
  · refine run_convert_bytes_arg w 68 5 Tryz.underlying68 Tryz.underlying5 r o k c (ns.map fun (n : Nat) => (n : Int)) ?_ (fun i hi => ?_) 9 Tryz.underlying9
    · rw [e1] at hn; simpa using hn
    · have hlen : i < ns.length := by
        have : ns.length = k := by rw [e1] at hn; simpa using hn
        omega
      have := hrg i (.int .u8 ((ns[i]'hlen : Nat) : Int)) (by rw [e1]; simp [hlen])
      rw [this]
      simp [List.getD, hlen]
theorem bq_ok {K : Nat → Option Obj} : CallOk Tryz.prog K bqF := by
  intro f l s v s' h φ w args hr hK hv
  simp only [bqF, chk_some, Option.bind_eq_some_iff] at h
  obtain ⟨hf, ⟨a, b⟩, hn, x, hx, y, hy, h⟩ := h
  cases h
  have hf := Nat.eq_of_beq_eq_true hf
  subst hf
  unfold bqArg at hn
  split at hn
  · cases hn
    obtain ⟨u, us, hl⟩ : ∃ u us, args.toList = u :: us := by
      cases hl : args.toList with
      | nil => rw [hl] at hv; exact hv.elim
      | cons u us => exact ⟨u, us, rfl⟩
    rw [hl] at hv
    obtain ⟨hu, hv⟩ := hv
    obtain ⟨u', rfl⟩ : ∃ u', us = [u'] := by
      cases us with
      | nil => exact hv.elim
      | cons u' us => cases us with
        | nil => exact ⟨u', rfl⟩
        | cons _ _ => exact hv.2.elim
    obtain rfl : args = #[u, u'] := Array.ext' hl
    obtain ⟨c1, d1⟩ := bytes_conv hr (show VC φ a u from hu) hx
    obtain ⟨c2, d2⟩ := bytes_conv hr (show VC φ b u' from hv.1) hy
    refine ⟨callFunc_body Tryz.func200 rfl (of_decide_eq_false (by kernel_rfl)), (equal_calls u u' _ _ w c1 c2).mono fun e w' ⟨he, hw⟩ => ?_⟩
    subst hw
    refine ⟨φ, _, Out.refl hr, ?_, he⟩
    show VC φ (.bool (eqN x y)) _
    rw [← eqN_eq d1 d2]
    simp only [ByteArray.toList_eq, strOfNums_data, List.map_map]
    rfl
  · cases hn
end Ev
end Go.Proofs.YtjbnkokcbhfdgabGreatDoor
