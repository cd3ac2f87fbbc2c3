/- The evaluator over this program. -/
import Derived.Test.YtibgakbkdonjcaaGreatDoorEvE
import Derived.Test.YtibgakbkdonjcaaGreatDoorEvF
import Derived.KernelRfl
namespace Go.Proofs.YtibgakbkdonjcaaGreatDoor.Ev
open Go Go.RowKit
set_option linter.unusedVariables false

theorem build_get {α : Type} (f : Nat → Option α) : ∀ (n k : Nat) (v : α), (buildTr f n).get k = some v → f k = some v
  | 0, k, v, h => by rw [show buildTr f 0 = .nil from rfl, get_nil] at h; cases h
  | n + 1, k, v, h => by
    have e : buildTr f (n + 1) = Tr.put (f n) (pth n) (buildTr f n) := by
      show (@Option.rec _ (fun _ => Tr α) (buildTr f n) (fun t => t) ((buildTr f n).set n (f n) fun t => some t)) = _
      rw [set_eq]
    rw [e, put_get'] at h
    unfold upd at h
    split at h
    · rename_i hk; rw [hk]; exact h
    · exact build_get f n k v h

noncomputable def tt : Tr TI := buildTr (tyInfo Tryz.prog) 326
noncomputable def ft : Tr Func := buildTr (fun f => Tryz.prog.funcs[f]?) 245
noncomputable abbrev hh : Nat → Bool := Tryz.prog.stoodInHeld

theorem env : Env Tryz.prog tt.get hh := ⟨fun t ti h => build_get _ _ t ti h, fun _ => rfl⟩
theorem fns : ∀ f F, ft.get f = some F → Tryz.prog.funcs[f]? = some F := fun f F h => build_get _ _ f F h

def regsOf (F : Func) : Bool := match F.body with | some k => allReg k | none => true
set_option maxRecDepth 100000 in
theorem regs_all : Tryz.prog.funcs.toList.all regsOf = true := by kernel_rfl
theorem regs : ∀ f F k, ft.get f = some F → F.body = some k → allReg k = true := fun f F k h hb => by
  have h1 := fns f F h
  have h2 := List.all_eq_true.1 regs_all F (by
    obtain ⟨h3, h4⟩ := Array.getElem?_eq_some_iff.1 h1
    rw [← h4]
    exact Array.mem_toList_iff.2 (Array.getElem_mem h3))
  unfold regsOf at h2
  rw [hb] at h2
  exact h2

/-- the kernel's run of a function -/
noncomputable abbrev run (f : Nat) (l : List AV) (s : StK) : Option (AV × StK) := callK tt.get hh ft.get 1000000 200 f l s
noncomputable abbrev runS : CallF := callE tt.get hh ft.get 1000000 200
theorem run_ok : CallOk Tryz.prog runS := call_sound fns 1000000 200 env
theorem run_spec {f : Nat} {l : List AV} {s s' : StK} {v : AV} (h : run f l s = some (v, s')) : runS f l (absS s) = some (v, absS s') := by
  have h1 := callK_eq (ty := tt.get) (held := hh) (fn := ft.get) (steps := 1000000) regs 200 f l s
  have h2 : callK tt.get hh ft.get 1000000 200 f l s = some (v, s') := h
  rw [h2] at h1
  exact h1.symm

def s0 : StK := ⟨.nil, 0, [], 0, []⟩
theorem abs_s0 : absS s0 = ⟨fun _ => none, 0, fun _ => false, 0, fun _ => false⟩ := by
  unfold absS s0
  rw [get_nil]
  rfl
theorem rel_s0 (w : World) : Rel (fun _ => none) (absS s0) w := by
  rw [abs_s0]
  exact ⟨fun k B h => (by cases h), fun k k' B B' p p' h => (by cases h), fun _ _ => rfl, fun _ _ => rfl⟩
theorem Out.below0 {φ' : Mp} {s' : St} {w w' : World} (h : Out (fun _ => none) (absS s0) w φ' s' w') : Below w.heap.size w w' :=
  ⟨h.os, h.tape, h.output, h.size, fun k hk => h.keep k hk (fun ⟨j, B, p, h1, h2, _⟩ => by cases h2)⟩

def isBool (b : Bool) : Option (AV × StK) → Bool
  | some (.v (.c (.bool c)), _) => beqB c b
  | _ => false
theorem isBool_some {b : Bool} {x : Option (AV × StK)} (h : isBool b x = true) : ∃ s', x = some (.v (.c (.bool b)), s') := by
  unfold isBool at h
  split at h
  · rename_i c s'
    rw [beqB_eq, beq_iff_eq] at h
    subst h
    exact ⟨s', rfl⟩
  · cases h

/-- a call without a look at memory, that gives a truth value -/
theorem bool_calls {f : Nat} {l : List AV} {b : Bool} (h : isBool b (run f l s0) = true) {args : Array Value} (ha : VAs (fun _ => none) l args.toList) (w : World) :
    Calls Tryz.prog f args w fun e w' => Below w.heap.size w w' ∧ e = .returned (.bool b) := by
  obtain ⟨s', h1⟩ := isBool_some h
  exact ((run_ok f l _ _ _ (run_spec h1) _ w args (rel_s0 w) ha).2).mono fun e w' he => by
    obtain ⟨φ', u, h2, h3, rfl⟩ := he
    exact ⟨Out.below0 h2, by have h4 : u = .bool b := h3; rw [h4]⟩

end Go.Proofs.YtibgakbkdonjcaaGreatDoor.Ev
