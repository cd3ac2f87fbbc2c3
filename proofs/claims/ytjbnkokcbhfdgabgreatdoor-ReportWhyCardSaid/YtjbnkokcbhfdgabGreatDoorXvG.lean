/- The evaluator over this program; math/bits.TrailingZeros64 is answered by its contract, truths that were run once are not run again. -/
import Derived.Test.YtjbnkokcbhfdgabGreatDoorXvI
import Derived.Test.YtjbnkokcbhfdgabGreatDoorBase
import Derived.Shelf.Spec.TrailingZeros
import Derived.KernelRfl
namespace Go.Proofs.YtjbnkokcbhfdgabGreatDoor.Ev
open Go Go.RowKit Go.Proofs
set_option linter.unusedVariables false

/-- a tree of a list -/
noncomputable def buildL {α : Type} (l : List α) : Nat → Tr α → Tr α := List.rec (motive := fun _ => Nat → Tr α → Tr α) (fun _ t => t) (fun x _ ih i t => (sT α (Tr α) i).f (some x) t fun t => ih (Nat.succ i) t) l
theorem buildL_get {α : Type} : ∀ (l : List α) (i : Nat) (t : Tr α) (k : Nat) (v : α), (buildL l i t).get k = some v → (∃ j, k = i + j ∧ l[j]? = some v) ∨ t.get k = some v
  | [], i, t, k, v, h => Or.inr h
  | x :: l, i, t, k, v, h => by
    rw [show buildL (x :: l) i t = (sT α (Tr α) i).f (some x) t fun t => buildL l (Nat.succ i) t from rfl, set_eqR] at h
    rcases buildL_get l (Nat.succ i) _ k v h with ⟨j, h1, h2⟩ | h
    · exact Or.inl ⟨j + 1, by omega, by simpa using h2⟩
    · rw [put_get'] at h
      unfold upd at h
      split at h
      · rename_i hk
        cases h
        exact Or.inl ⟨0, by omega, rfl⟩
      · exact Or.inr h
theorem buildL_get0 {α : Type} {l : List α} {k : Nat} {v : α} (h : (buildL l 0 .nil).get k = some v) : l[k]? = some v := by
  rcases buildL_get l 0 .nil k v h with ⟨j, h1, h2⟩ | h
  · obtain rfl : k = j := by omega
    exact h2
  · rw [get_nil] at h; cases h

noncomputable def underT (tr : Nat → Option TypeInfo) (d : TypeDesc) : Option TypeDesc := match d with
  | .named _ u => (tr u).map (·.desc)
  | d => some d
noncomputable def tiT (tr : Nat → Option TypeInfo) (i : TypeInfo) : Option TI := (underT tr i.desc).bind fun d => some { desc := d, size := i.size, bytes := i.bytes, agg := isAggD d, zero := zeroOf i.zero, z := zeroTV i.zero }
noncomputable def trT : Tr TypeInfo := buildL Tryz.prog.types.toList 0 .nil
noncomputable def tt : Nat → Option TI := fun t => ob (trT.get t) (tiT trT.get)
noncomputable def ft : Tr Func := buildL Tryz.prog.funcs.toList 0 .nil
noncomputable abbrev hh : Nat → Bool := Tryz.prog.stoodInHeld

theorem trT_info {t : Nat} {i : TypeInfo} (h : trT.get t = some i) : Tryz.prog.info? t = some i := by
  have h1 : Tryz.prog.types[t]? = some i := by rw [← Array.getElem?_toList]; exact buildL_get0 h
  have h2 : t < Tryz.prog.types.size := (Array.getElem?_eq_some_iff.1 h1).1
  show Tables.info? Tryz.prog.toTables t = some i
  unfold Tables.info?
  rw [if_pos h2]
  exact h1
theorem env : Env Tryz.prog tt hh := ⟨fun t ti h => by
  unfold tt at h
  cases h1 : trT.get t with
  | none => rw [h1] at h; cases h
  | some i =>
    rw [h1] at h
    have h : tiT trT.get i = some ti := h
    unfold tiT at h
    cases h2 : underT trT.get i.desc with
    | none => rw [h2] at h; cases h
    | some d =>
      rw [h2] at h
      have hu : Tryz.prog.underlying t = some d := by
        unfold Program.underlying
        rw [trT_info h1]
        unfold underT at h2
        obtain ⟨desc, a2⟩ := i
        split at h2
        · rename_i n u he
          simp only at he
          cases hx : trT.get u with
          | none => rw [hx] at h2; cases h2
          | some j =>
            rw [hx] at h2
            subst he
            simp only
            rw [trT_info hx]
            exact h2
        · rename_i he
          simp only at he h2
          split
          · rename_i n u _ _ _ hh
            cases hh
            exact absurd rfl (he _ _)
          · rename_i hh
            cases hh
            exact h2
          · rename_i hh
            cases hh
      unfold tyInfo
      rw [trT_info h1, hu]
      exact h, fun _ => rfl⟩
theorem fns : ∀ f F, ft.get f = some F → Tryz.prog.funcs[f]? = some F := fun f F h => by rw [← Array.getElem?_toList]; exact buildL_get0 h

def regsOf (F : Func) : Bool := match F.body with | some k => allReg k | none => true
/-- those from a on -/
def regsIn (fn : Nat → Option Func) : Nat → Nat → Bool
  | _, 0 => true
  | a, n + 1 => (match fn a with | some F => regsOf F | none => true) && regsIn fn (a + 1) n
theorem regsIn_spec {fn : Nat → Option Func} : ∀ {n a : Nat}, regsIn fn a n = true → ∀ f F, a ≤ f → f < a + n → fn f = some F → regsOf F = true
  | 0, a, _, f, F, h1, h2, _ => by omega
  | n + 1, a, h, f, F, h1, h2, h3 => by
    simp only [regsIn, Bool.and_eq_true] at h
    by_cases e : f = a
    · subst e; rw [h3] at h; exact h.1
    · exact regsIn_spec h.2 f F (by omega) (by omega) h3
def regC : Nat := 447 / 16 + 1
set_option maxRecDepth 100000 in
theorem regs0 : regsIn (fun f => Tryz.prog.funcs[f]?) (0 * regC) regC = true := by kernel_rfl
set_option maxRecDepth 100000 in
theorem regs1 : regsIn (fun f => Tryz.prog.funcs[f]?) (1 * regC) regC = true := by kernel_rfl
set_option maxRecDepth 100000 in
theorem regs2 : regsIn (fun f => Tryz.prog.funcs[f]?) (2 * regC) regC = true := by kernel_rfl
set_option maxRecDepth 100000 in
theorem regs3 : regsIn (fun f => Tryz.prog.funcs[f]?) (3 * regC) regC = true := by kernel_rfl
set_option maxRecDepth 100000 in
theorem regs4 : regsIn (fun f => Tryz.prog.funcs[f]?) (4 * regC) regC = true := by kernel_rfl
set_option maxRecDepth 100000 in
theorem regs5 : regsIn (fun f => Tryz.prog.funcs[f]?) (5 * regC) regC = true := by kernel_rfl
set_option maxRecDepth 100000 in
theorem regs6 : regsIn (fun f => Tryz.prog.funcs[f]?) (6 * regC) regC = true := by kernel_rfl
set_option maxRecDepth 100000 in
theorem regs7 : regsIn (fun f => Tryz.prog.funcs[f]?) (7 * regC) regC = true := by kernel_rfl
set_option maxRecDepth 100000 in
theorem regs8 : regsIn (fun f => Tryz.prog.funcs[f]?) (8 * regC) regC = true := by kernel_rfl
set_option maxRecDepth 100000 in
theorem regs9 : regsIn (fun f => Tryz.prog.funcs[f]?) (9 * regC) regC = true := by kernel_rfl
set_option maxRecDepth 100000 in
theorem regs10 : regsIn (fun f => Tryz.prog.funcs[f]?) (10 * regC) regC = true := by kernel_rfl
set_option maxRecDepth 100000 in
theorem regs11 : regsIn (fun f => Tryz.prog.funcs[f]?) (11 * regC) regC = true := by kernel_rfl
set_option maxRecDepth 100000 in
theorem regs12 : regsIn (fun f => Tryz.prog.funcs[f]?) (12 * regC) regC = true := by kernel_rfl
set_option maxRecDepth 100000 in
theorem regs13 : regsIn (fun f => Tryz.prog.funcs[f]?) (13 * regC) regC = true := by kernel_rfl
set_option maxRecDepth 100000 in
theorem regs14 : regsIn (fun f => Tryz.prog.funcs[f]?) (14 * regC) regC = true := by kernel_rfl
set_option maxRecDepth 100000 in
theorem regs15 : regsIn (fun f => Tryz.prog.funcs[f]?) (15 * regC) regC = true := by kernel_rfl
theorem regs : ∀ f F k, ft.get f = some F → F.body = some k → allReg k = true := fun f F k h hb => by
  have h1 := fns f F h
  have hlt : f < 447 := Nat.lt_of_lt_of_le (Array.getElem?_eq_some_iff.1 h1).1 (Nat.le_of_ble_eq_true (by kernel_rfl))
  have h2 : regsOf F = true := by
    have hc : regC = 447 / 16 + 1 := rfl
    rcases (by omega : (0 * regC ≤ f ∧ f < 0 * regC + regC) ∨ (1 * regC ≤ f ∧ f < 1 * regC + regC) ∨ (2 * regC ≤ f ∧ f < 2 * regC + regC) ∨ (3 * regC ≤ f ∧ f < 3 * regC + regC) ∨ (4 * regC ≤ f ∧ f < 4 * regC + regC) ∨ (5 * regC ≤ f ∧ f < 5 * regC + regC) ∨ (6 * regC ≤ f ∧ f < 6 * regC + regC) ∨ (7 * regC ≤ f ∧ f < 7 * regC + regC) ∨ (8 * regC ≤ f ∧ f < 8 * regC + regC) ∨ (9 * regC ≤ f ∧ f < 9 * regC + regC) ∨ (10 * regC ≤ f ∧ f < 10 * regC + regC) ∨ (11 * regC ≤ f ∧ f < 11 * regC + regC) ∨ (12 * regC ≤ f ∧ f < 12 * regC + regC) ∨ (13 * regC ≤ f ∧ f < 13 * regC + regC) ∨ (14 * regC ≤ f ∧ f < 14 * regC + regC) ∨ (15 * regC ≤ f ∧ f < 15 * regC + regC)) with ⟨g1, g2⟩ | ⟨g1, g2⟩ | ⟨g1, g2⟩ | ⟨g1, g2⟩ | ⟨g1, g2⟩ | ⟨g1, g2⟩ | ⟨g1, g2⟩ | ⟨g1, g2⟩ | ⟨g1, g2⟩ | ⟨g1, g2⟩ | ⟨g1, g2⟩ | ⟨g1, g2⟩ | ⟨g1, g2⟩ | ⟨g1, g2⟩ | ⟨g1, g2⟩ | ⟨g1, g2⟩
    · exact regsIn_spec regs0 f F g1 g2 h1
    · exact regsIn_spec regs1 f F g1 g2 h1
    · exact regsIn_spec regs2 f F g1 g2 h1
    · exact regsIn_spec regs3 f F g1 g2 h1
    · exact regsIn_spec regs4 f F g1 g2 h1
    · exact regsIn_spec regs5 f F g1 g2 h1
    · exact regsIn_spec regs6 f F g1 g2 h1
    · exact regsIn_spec regs7 f F g1 g2 h1
    · exact regsIn_spec regs8 f F g1 g2 h1
    · exact regsIn_spec regs9 f F g1 g2 h1
    · exact regsIn_spec regs10 f F g1 g2 h1
    · exact regsIn_spec regs11 f F g1 g2 h1
    · exact regsIn_spec regs12 f F g1 g2 h1
    · exact regsIn_spec regs13 f F g1 g2 h1
    · exact regsIn_spec regs14 f F g1 g2 h1
    · exact regsIn_spec regs15 f F g1 g2 h1
  unfold regsOf at h2
  rw [hb] at h2
  exact h2

theorem callFunc_body {P : Program} {f : Nat} {F : Func} {k : Code} {args : Array Value} {w : World} (hF : P.funcs[f]? = some F) (hb : F.body = some k) (hn : ¬ F.name = "runtime.NumGoroutine") : (callFunc f args).run P w = .ok (.enter f args) w := by
  simp [callFunc, hF, hn, hb]

/-- the rows of a world that no evaluation turns -/
def keptOf (w : World) : Nat → Option Obj := fun r => w.heap[r]?
theorem kept0 (w : World) : Kept (keptOf w) (fun _ => none) w := ⟨fun r o h => h, fun k p h => by cases h⟩

/-- the library's table lies in its variable -/
def Tab (w : World) : Prop := TabAt 1 Lib.deBruijn64tab w
theorem Tab.kept {w w' : World} (h : Tab w) (hk : ∀ r o, keptOf w r = some o → w'.heap[r]? = some o) : Tab w' := by
  intro j hj
  have h1 := h j hj
  unfold World.cell? at h1 ⊢
  cases hr : w.heap[1]? with
  | none => rw [hr] at h1; simp at h1
  | some o => rw [hr] at h1; rw [hk 1 o hr]; exact h1

/-! math/bits.TrailingZeros64 -/
set_option maxHeartbeats 1000000 in
theorem tz_core (x k idx : Nat) (w : World) (hx0 : ((x : Int) == 0) = false)
    (key : IntKind.u64.wrap (bits BinOp.and IntKind.u64 (x : Int) (IntKind.u64.wrap (-(x : Int))) * 285870213051353865) / 288230376151711744 = (idx : Int))
    (hi : idx < 64) (hk : k < 64) (hcell : w.cell? ⟨1, idx, none⟩ = some (.int .u8 k)) :
    Calls Tryz.prog 146 #[.int .u64 x] w fun e w' => e = .returned (.int .i64 k) ∧ w' = w := by
  go_enter Tryz.func146, Tryz.ntmps146
  go_wp2_with (simp only [key])
  go_ret
  exact ⟨rfl, rfl⟩
theorem tz_zero (w : World) : Calls Tryz.prog 146 #[.int .u64 0] w fun e w' => e = .returned (.int .i64 64) ∧ w' = w := by
  go_enter Tryz.func146, Tryz.ntmps146
  go_wp2
  go_ret
  exact ⟨rfl, rfl⟩
theorem tz_calls (x : Nat) (hx : x < 18446744073709551616) (w : World) (hT : Tab w) : Calls Tryz.prog 146 #[.int .u64 x] w fun e w' => e = .returned (.int .i64 (Lib.ctz 64 x)) ∧ w' = w := by
  by_cases hx0 : x = 0
  · subst hx0
    exact tz_zero w
  · obtain ⟨hlow, hk⟩ := Lib.lowest_bit 64 x hx0 hx
    obtain ⟨hi, htab⟩ := Lib.deBruijn64_at _ hk
    have hcell := hT _ hi
    rw [htab] at hcell
    exact tz_core x _ _ w (by simp; omega) (tz64_key x _ hx hx0 hlow) hi hk hcell

def ctzB : Nat → Nat → Nat
  | 0, _ => 0
  | f + 1, x => match Nat.beq (Nat.mod x 2) 1 with
    | true => 0
    | false => Nat.succ (ctzB f (Nat.div x 2))
theorem ctzB_eq : ∀ (f x : Nat), ctzB f x = Lib.ctzFrom f x
  | 0, _ => rfl
  | f + 1, x => by
    unfold ctzB Lib.ctzFrom
    split
    · rename_i h
      have h : x % 2 = 1 := Nat.eq_of_beq_eq_true h
      rw [if_pos h]
    · rename_i h
      have h : ¬ x % 2 = 1 := beq_ne h
      rw [if_neg h, ctzB_eq f (Nat.div x 2), Nat.add_comm]
      rfl
def ctzN (x : Nat) : Nat := match Nat.beq x 0 with
  | true => 64
  | false => ctzB 64 x
theorem ctzN_eq (x : Nat) : ctzN x = Lib.ctz 64 x := by
  unfold ctzN Lib.ctz
  split
  · rename_i h; rw [if_pos (Nat.eq_of_beq_eq_true h)]
  · rename_i h; rw [if_neg (beq_ne h), ctzB_eq]
def tzArg (l : List AV) : Option Nat := match l with
  | [.v (.c (.int k (.ofNat n)))] => chk (beqKind k .u64) (chk (Nat.blt n 18446744073709551616) (some n))
  | _ => none
def tzF : CallF := fun f l s => chk (Nat.beq f 146) ((tzArg l).bind fun n => some (.v (.c (.int .i64 (.ofNat (ctzN n)))), s))
noncomputable def tzK : CallK := fun f l s => ib (Nat.beq f 146) (ob (tzArg l) fun n => some (.v (.c (.int .i64 (.ofNat (ctzN n)))), s)) none
theorem tz_eq : CallEq tzK tzF := by
  intro f l s
  simp only [tzK, tzF, ib_eq, ob_eq, map_chk, map_bind']
  rfl
theorem tz_upd : CallUpd tzF := by
  intro f l s v s' h _
  simp only [tzF, chk_some, Option.bind_eq_some_iff] at h
  obtain ⟨_, n, _, h⟩ := h
  cases h
  exact Upd.refl s
theorem tz_ok {K : Nat → Option Obj} (hT : ∀ φ w, Kept K φ w → Tab w) : CallOk Tryz.prog K tzF := by
  intro f l s v s' h φ w args hr hK hv
  simp only [tzF, chk_some, Option.bind_eq_some_iff] at h
  obtain ⟨hf, n, hn, h⟩ := h
  cases h
  have hf := Nat.eq_of_beq_eq_true hf
  subst hf
  unfold tzArg at hn
  split at hn
  · rename_i k m
    simp only [chk_some, Nat.blt_eq] at hn
    obtain ⟨h1, h2, h3⟩ := hn
    cases h3
    have := beqKind_eq h1; subst this
    have ha : args = #[.int .u64 n] := by
      apply Array.ext'
      cases hl : args.toList with
      | nil => rw [hl] at hv; exact hv.elim
      | cons u us =>
        rw [hl] at hv
        cases us with
        | nil => have : u = _ := hv.1; rw [this]; rfl
        | cons _ _ => exact hv.2.elim
    subst ha
    refine ⟨?_, (tz_calls n h2 w (hT φ w hK)).mono fun e w' ⟨he, hw⟩ => ?_⟩
    · exact callFunc_body Tryz.func146 rfl (of_decide_eq_false (by kernel_rfl))
    · subst hw
      exact ⟨φ, _, Out.refl hr, rfl, by rw [he, ← ctzN_eq]; rfl⟩
  · cases hn

/-! what was run once -/
/-- functions of no argument that give true and leave all as it was -/
noncomputable def memF (L : List Nat) (hk : CallF) : CallF := fun f l s => match memN L f with
  | true => match l with
    | [] => some (.v (.c (.bool true)), s)
    | _ => none
  | false => hk f l s
noncomputable def memK (L : List Nat) (hk : CallK) : CallK := fun f l s => ib (memN L f) (List.rec (some (.v (.c (.bool true)), s)) (fun _ _ _ => none) l) (hk f l s)
theorem mem_eq (L : List Nat) {hk : CallK} {hf : CallF} (h : CallEq hk hf) : CallEq (memK L hk) (memF L hf) := by
  intro f l s
  unfold memK memF
  rw [ib_match]
  cases memN L f
  · exact h f l s
  · cases l <;> rfl
theorem mem_upd (L : List Nat) {hf : CallF} (h : CallUpd hf) : CallUpd (memF L hf) := by
  intro f l s v s' hc ht
  unfold memF at hc
  split at hc
  · split at hc
    · cases hc; exact Upd.refl s
    · cases hc
  · exact h f l s v s' hc ht

noncomputable def s0 : StK := ⟨.nil, 0, [], 0, []⟩
theorem abs_s0 : absS s0 = ⟨fun _ => none, 0, fun _ => false, 0, fun _ => false⟩ := by
  unfold absS s0
  rw [get_nil]
  rfl
theorem rel_s0 (w : World) : Rel (fun _ => none) (absS s0) w := by
  rw [abs_s0]
  exact ⟨fun k B h => (by cases h), fun k k' B B' p p' h => (by cases h), fun _ _ => rfl, fun _ _ => rfl⟩
theorem Out.below0 {φ' : Mp} {s' : St} {w w' : World} (h : Out (fun _ => none) (absS s0) w φ' s' w') : Below w.heap.size w w' :=
  ⟨h.os, h.tape, h.output, h.size, fun k hk => h.keep k hk (fun ⟨j, B, p, h1, h2, _⟩ => by cases h2)⟩

/-- the kernel's run of a function -/
noncomputable abbrev runW (hk : CallK) (f : Nat) (l : List AV) (s : StK) : Option (AV × StK) := callC tt hh hk ft.get 1000000 200 f l s
theorem runW_spec {hk : CallK} {hf : CallF} (he : CallEq hk hf) {f : Nat} {l : List AV} {s s' : StK} {v : AV} (h : runW hk f l s = some (v, s')) : callE tt hh hf ft.get 1000000 200 f l (absS s) = some (v, absS s') := by
  have h1 := callC_le (ty := tt) (held := hh) he (fn := ft.get) (steps := 1000000) regs 200 f l s
  have h2 : callC tt hh hk ft.get 1000000 200 f l s = some (v, s') := h
  rw [h2] at h1
  exact h1 _ rfl

def isBool (b : Bool) : Option (AV × StK) → Bool
  | some (.v (.c (.bool c)), _) => beqB c b
  | _ => false
theorem isBool_some {b : Bool} {x : Option (AV × StK)} (h : isBool b x = true) : ∃ s', x = some (.v (.c (.bool b)), s') := by
  unfold isBool at h
  split at h
  · rename_i c s'
    rw [beqB_eq, beq_iff_eq] at h
    subst h
    exact ⟨s', rfl⟩
  · cases h

/-- a call without a look at memory, that gives a truth value -/
theorem boolW {hk : CallK} {hf : CallF} (he : CallEq hk hf) (hu : CallUpd hf) {f : Nat} {l : List AV} {b : Bool} (h : isBool b (runW hk f l s0) = true) {args : Array Value} (ha : VAs (fun _ => none) l args.toList) (w : World) (ho : CallOk Tryz.prog (keptOf w) hf) :
    (callFunc f args).run Tryz.prog w = .ok (.enter f args) w ∧ Calls Tryz.prog f args w fun e w' => Below w.heap.size w w' ∧ e = .returned (.bool b) := by
  obtain ⟨s', h1⟩ := isBool_some h
  have h2 := call_sound ho hu fns 1000000 200 env f l _ _ _ (runW_spec he h1) _ w args (rel_s0 w) (kept0 w) ha
  refine ⟨h2.1, h2.2.mono fun e w' he => ?_⟩
  obtain ⟨φ', u, h2, h3, rfl⟩ := he
  exact ⟨Out.below0 h2, by have h4 : u = .bool b := h3; rw [h4]⟩

/-- where those of the list were run, the list answers -/
theorem mem_ok {L : List Nat} {hk : CallK} {hf : CallF} (he : CallEq hk hf) (hu : CallUpd hf) (hL : ∀ f, memN L f = true → isBool true (runW hk f [] s0) = true) {K : Nat → Option Obj}
    (ho : ∀ φ w, Kept K φ w → CallOk Tryz.prog (keptOf w) hf) (ho' : CallOk Tryz.prog K hf) : CallOk Tryz.prog K (memF L hf) := by
  intro f l s v s' h φ w args hr hK hv
  unfold memF at h
  split at h
  · rename_i hm
    split at h
    · cases h
      have ha : args = #[] := by
        apply Array.ext'
        cases hl : args.toList with
        | nil => rfl
        | cons _ _ => rw [hl] at hv; exact hv.elim
      subst ha
      obtain ⟨h1, h2⟩ := boolW he hu (hL f hm) (args := #[]) trivial w (ho φ w hK)
      refine ⟨h1, h2.mono fun e w' ⟨hb, he⟩ => ⟨φ, .bool true, Out.same hr ⟨hb.os, hb.tape, hb.output, hb.size, fun r hr => hb.block r hr⟩, rfl, he⟩⟩
    · cases h
  · exact ho' f l s v s' h φ w args hr hK hv

theorem tz_okw {w : World} (hT : Tab w) : CallOk Tryz.prog (keptOf w) tzF := tz_ok fun φ w' h => hT.kept h.row
theorem mem_okw {L : List Nat} (hL : ∀ f, memN L f = true → isBool true (runW tzK f [] s0) = true) {w : World} (hT : Tab w) : CallOk Tryz.prog (keptOf w) (memF L tzF) :=
  mem_ok tz_eq tz_upd hL (fun φ w' h => tz_okw (hT.kept h.row)) (tz_okw hT)
end Go.Proofs.YtjbnkokcbhfdgabGreatDoor.Ev
