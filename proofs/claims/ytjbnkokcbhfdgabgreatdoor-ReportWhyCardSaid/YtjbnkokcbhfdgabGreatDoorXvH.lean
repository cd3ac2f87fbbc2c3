/- The evaluator, as closures: each function of the program is made a closure once; the kernel keeps it. -/
import Derived.Test.YtjbnkokcbhfdgabGreatDoorXvF
namespace Go.Proofs.YtjbnkokcbhfdgabGreatDoor.Ev
open Go Go.RowKit
set_option linter.unusedVariables false
set_option linter.unusedSimpArgs false
set_option linter.unusedSectionVars false
set_option linter.unnecessarySimpa false
abbrev R := Option (AV × StK)
noncomputable def oG : Operand → GW TK (Option AV) :=
  Operand.rec (motive := fun _ => GW TK (Option AV)) (fun t => gT AV t) (fun v => Option.rec (motive := fun _ => GW TK (Option AV)) ⟨fun _ => none⟩ (fun a => ⟨fun _ => some a⟩) (absA v)) (fun _ => ⟨fun _ => none⟩) (fun f => ⟨fun _ => some (.v (.c (.func f [])))⟩)
theorem oG_eq (x : Operand) (T : TK) : (oG x).f T = evK T x := by
  cases x with
  | tmp t => rfl
  | const v =>
    show (Option.rec (motive := fun _ => GW TK (Option AV)) ⟨fun _ => none⟩ (fun a => ⟨fun _ => some a⟩) (absA v) : GW TK (Option AV)).f T = absA v
    cases absA v <;> rfl
  | global g => rfl
  | func f => rfl

theorem ob_ob {α β γ : Type} (x : Option α) (f : α → Option β) (g : β → Option γ) : ob (ob x f) g = ob x fun a => ob (f a) g := by cases x <;> rfl
theorem ob_os2 {α β γ δ : Type} (x : Option α) (f : α → Option (β × γ)) (g : β → γ → Option δ) : os2 (ob x f) g = ob x fun a => os2 (f a) g := by cases x <;> rfl
theorem os2_os2 {α β γ δ ε : Type} (x : Option (α × β)) (f : α → β → Option (γ × δ)) (g : γ → δ → Option ε) : os2 (os2 x f) g = os2 x fun a b => os2 (f a b) g := by cases x <;> rfl
theorem os2_ib {β γ δ : Type} (c : Bool) (t e : Option (β × γ)) (g : β → γ → Option δ) : os2 (ib c t e) g = ib c (os2 t g) (os2 e g) := by cases c <;> rfl
theorem kA_os2 {δ : Type} (s : StK) (x : Option AV) (g : AV → StK → Option δ) : os2 (kA s x) g = ob x fun v => g v s := by cases x <;> rfl
theorem kT_os2 {δ : Type} (s : StK) (x : Option TV) (g : AV → StK → Option δ) : os2 (kT s x) g = ob x fun v => g (.v v) s := by cases x <;> rfl

/-! cases of a value: one way down -/
noncomputable def ptrR : Option AV → (Nat → Nat → R) → R :=
  Option.rec (motive := fun _ => (Nat → Nat → R) → R) (fun _ => none) (AV.rec (motive := fun _ => (Nat → Nat → R) → R) (TV.rec (motive := fun _ => (Nat → Nat → R) → R) (CV.rec (motive := fun _ => (Nat → Nat → R) → R)
    (fun _ _ => none) (fun _ _ _ => none) (fun _ _ => none) (fun b o k => k b o) (fun _ => none) (fun _ _ _ _ _ => none) (fun _ => none) (fun _ _ _ => none) (fun _ => none) (fun _ => none) (fun _ _ _ _ => none) (fun _ _ => none) (fun _ => none) (fun _ _ _ _ => none) (fun _ _ _ _ => none))
    (fun _ _ => none)) (fun _ _ => none))
theorem ptrR_eq (x : Option AV) (k : Nat → Nat → R) : ptrR x k = ob (ob x cOf) fun c => os2 (ptrOf c) k := by
  cases x with
  | none => rfl
  | some v => cases v with
    | tup l => rfl
    | v t => cases t with
      | agg l => rfl
      | c c => cases c <;> rfl
noncomputable def ptrV : Option AV → (Nat → Nat → Option AV) → Option AV :=
  Option.rec (motive := fun _ => (Nat → Nat → Option AV) → Option AV) (fun _ => none) (AV.rec (motive := fun _ => (Nat → Nat → Option AV) → Option AV) (TV.rec (motive := fun _ => (Nat → Nat → Option AV) → Option AV) (CV.rec (motive := fun _ => (Nat → Nat → Option AV) → Option AV)
    (fun _ _ => none) (fun _ _ _ => none) (fun _ _ => none) (fun b o k => k b o) (fun _ => none) (fun _ _ _ _ _ => none) (fun _ => none) (fun _ _ _ => none) (fun _ => none) (fun _ => none) (fun _ _ _ _ => none) (fun _ _ => none) (fun _ => none) (fun _ _ _ _ => none) (fun _ _ _ _ => none))
    (fun _ _ => none)) (fun _ _ => none))
theorem ptrV_eq (x : Option AV) (k : Nat → Nat → Option AV) : ptrV x k = ob (ob x cOf) fun c => os2 (ptrOf c) k := by
  cases x with
  | none => rfl
  | some v => cases v with
    | tup l => rfl
    | v t => cases t with
      | agg l => rfl
      | c c => cases c <;> rfl
/-- true, false, neither -/
noncomputable def boolR : Option AV → R → R → R :=
  Option.rec (motive := fun _ => R → R → R) (fun _ _ => none) (AV.rec (motive := fun _ => R → R → R) (TV.rec (motive := fun _ => R → R → R) (CV.rec (motive := fun _ => R → R → R)
    (Bool.rec (motive := fun _ => R → R → R) (fun _ e => e) (fun t _ => t)) (fun _ _ _ _ => none) (fun _ _ _ => none) (fun _ _ _ _ => none) (fun _ _ => none) (fun _ _ _ _ _ _ => none) (fun _ _ => none) (fun _ _ _ _ => none) (fun _ _ => none) (fun _ _ => none) (fun _ _ _ _ _ => none) (fun _ _ _ => none) (fun _ _ => none) (fun _ _ _ _ _ => none) (fun _ _ _ _ _ => none))
    (fun _ _ _ => none)) (fun _ _ _ => none))
theorem boolR_eq (x : Option AV) (t e : R) : boolR x t e = ob (ob x cOf) fun c => ob (boolOf c) fun b => (Bool.rec e t b : R) := by
  cases x with
  | none => rfl
  | some v => cases v with
    | tup l => rfl
    | v u => cases u with
      | agg l => rfl
      | c c =>
        cases c <;> try rfl
        rename_i b
        cases b <;> rfl
noncomputable def boolV : Option AV → Option AV → Option AV → Option AV :=
  Option.rec (motive := fun _ => Option AV → Option AV → Option AV) (fun _ _ => none) (AV.rec (motive := fun _ => Option AV → Option AV → Option AV) (TV.rec (motive := fun _ => Option AV → Option AV → Option AV) (CV.rec (motive := fun _ => Option AV → Option AV → Option AV)
    (Bool.rec (motive := fun _ => Option AV → Option AV → Option AV) (fun _ e => e) (fun t _ => t)) (fun _ _ _ _ => none) (fun _ _ _ => none) (fun _ _ _ _ => none) (fun _ _ => none) (fun _ _ _ _ _ _ => none) (fun _ _ => none) (fun _ _ _ _ => none) (fun _ _ => none) (fun _ _ => none) (fun _ _ _ _ _ => none) (fun _ _ _ => none) (fun _ _ => none) (fun _ _ _ _ _ => none) (fun _ _ _ _ _ => none))
    (fun _ _ _ => none)) (fun _ _ _ => none))
theorem boolV_eq (x t e : Option AV) : boolV x t e = ob (ob x cOf) fun c => ob (boolOf c) fun b => (Bool.rec e t b : Option AV) := by
  cases x with
  | none => rfl
  | some v => cases v with
    | tup l => rfl
    | v u => cases u with
      | agg l => rfl
      | c c =>
        cases c <;> try rfl
        rename_i b
        cases b <;> rfl
/-- a number's cases: of which kind, which; else the other -/
noncomputable def intV? : AV → (IntKind → Int → Option AV) → Option AV → Option AV :=
  AV.rec (motive := fun _ => (IntKind → Int → Option AV) → Option AV → Option AV) (TV.rec (motive := fun _ => (IntKind → Int → Option AV) → Option AV → Option AV) (CV.rec (motive := fun _ => (IntKind → Int → Option AV) → Option AV → Option AV)
    (fun _ _ e => e) (fun k n f _ => f k n) (fun _ _ e => e) (fun _ _ _ e => e) (fun _ e => e) (fun _ _ _ _ _ e => e) (fun _ e => e) (fun _ _ _ e => e) (fun _ e => e) (fun _ e => e) (fun _ _ _ _ e => e) (fun _ _ e => e) (fun _ e => e) (fun _ _ _ _ e => e) (fun _ _ _ _ e => e))
    (fun _ _ e => e)) (fun _ _ e => e)

/-! pure operations: a value of the temporaries alone -/
noncomputable def vMove (g : TK → Option AV) : TK → Option AV := g
noncomputable def vNil (g : TK → Option AV) : TK → Option AV := fun T => ptrV (g T) fun b o => some (.v (.c (.ptr b o)))
noncomputable def vPick (c a b : TK → Option AV) : TK → Option AV := fun T => boolV (c T) (a T) (b T)
noncomputable def vFA (off : Nat) (g : TK → Option AV) : TK → Option AV := fun T => ptrV (g T) fun b o => some (.v (.c (.ptr b (Nat.add o off))))
noncomputable def aC (x : Option CV) : Option AV := Option.rec none (fun v => some (.v (.c v))) x
noncomputable def iopW : BinOp → GW IntKind (Int → Int → Option CV) :=
  BinOp.rec (motive := fun _ => GW IntKind (Int → Int → Option CV))
    ⟨fun k a b => intInK k (Int.add a b)⟩ ⟨fun k a b => intInK k (Int.sub a b)⟩ ⟨fun k a b => intInK k (Int.mul a b)⟩ ⟨divOpK true⟩ ⟨divOpK false⟩
    ⟨bitOpK Nat.land⟩ ⟨bitOpK Nat.lor⟩ ⟨bitOpK Nat.xor⟩ ⟨fun _ _ _ => none⟩ ⟨fun _ _ _ => none⟩ ⟨bitOpK (fun m n => Nat.xor m (Nat.land m n))⟩
    ⟨fun _ a b => some (.bool (ieq a b))⟩ ⟨fun _ a b => some (.bool (not (ieq a b)))⟩ ⟨fun _ a b => some (.bool (ilt a b))⟩ ⟨fun _ a b => some (.bool (ile a b))⟩
    ⟨fun _ a b => some (.bool (ilt b a))⟩ ⟨fun _ a b => some (.bool (ile b a))⟩
theorem iopW_eq (op : BinOp) (k : IntKind) (a b : Int) : (iopW op).f k a b = intOpK op k a b := by cases op <;> rfl
noncomputable def isSh : BinOp → Bool := BinOp.rec (motive := fun _ => Bool) false false false false false false false false true true false false false false false false false
noncomputable def vBin (f : IntKind → Int → Int → Option CV) (old : AV → AV → Option AV) (x y : TK → Option AV) : TK → Option AV := fun T =>
  Option.rec none (fun u => Option.rec none (fun v => intV? u (fun k a => intV? v (fun j b => Bool.rec none (aC (f k a b)) (beqKind k j)) (old u v)) (old u v)) (y T)) (x T)
noncomputable def oldBin (ty : Nat → Option TI) (held : Nat → Bool) (op : BinOp) (t : Nat) (cst : Bool) (u v : AV) : Option AV := ob (tOf u) fun u => ob (tOf v) fun v => aC (binK ty held op t cst u v)
noncomputable def vOld (ty : Nat → Option TI) (held : Nat → Bool) (op : BinOp) (t : Nat) (cst : Bool) (x y : TK → Option AV) : TK → Option AV := fun T => ob (x T) fun u => ob (y T) fun v => oldBin ty held op t cst u v
noncomputable def vExt (g : TK → Option AV) (i : Nat) : TK → Option AV := fun T => ob (g T) fun v => ob (nthT v i) fun t => some (.v t)
noncomputable def vUn (op : UnOp) (g : TK → Option AV) : TK → Option AV := fun T => aC (ob (ob (g T) cOf) fun v => unE op v)
noncomputable def vIA (ty : Nat → Option TI) (d : TypeDesc) (x ix : TK → Option AV) : TK → Option AV := fun T => aC (ob (ob (x T) cOf) fun v => ob (ob (ix T) cOf) fun w => ob (natOf w) fun i => indexAtK ty i v d)
noncomputable def vLen (g : TK → Option AV) : TK → Option AV := fun T => ob (ob (g T) cOf) fun v => ob (lenOfSlice v) fun n => some (.v (.c (.int .i64 (.ofNat n))))

abbrev VW := GW TK (Option AV)
/-- the pure ones, as closures -/
noncomputable def m1 (F : (TK → Option AV) → TK → Option AV) (x : Operand) : Option VW := GW.rec (motive := fun _ => Option VW) (fun g => some ⟨F g⟩) (oG x)
noncomputable def m2 (F : (TK → Option AV) → (TK → Option AV) → TK → Option AV) (x y : Operand) : Option VW := GW.rec (motive := fun _ => Option VW) (fun g => GW.rec (motive := fun _ => Option VW) (fun h => some ⟨F g h⟩) (oG y)) (oG x)
theorem m1_eq {F : (TK → Option AV) → TK → Option AV} {x : Operand} {v : VW} (h : m1 F x = some v) (T : TK) : v.f T = F (oG x).f T := by
  unfold m1 at h
  cases e : oG x with
  | mk g => rw [e] at h; cases h; rfl
theorem m2_eq {F : (TK → Option AV) → (TK → Option AV) → TK → Option AV} {x y : Operand} {v : VW} (h : m2 F x y = some v) (T : TK) : v.f T = F (oG x).f (oG y).f T := by
  unfold m2 at h
  cases e : oG x with
  | mk g =>
    cases e' : oG y with
    | mk g' => rw [e, e'] at h; cases h; rfl

theorem ext1 {F G : TK → Option AV} (h : ∀ T, F T = G T) : F = G := funext h

section
variable (ty : Nat → Option TI) (held : Nat → Bool)
/-- a pure operation's closure is right -/
def PureOk (op : Op) (v : VW) : Prop := ∀ (call : CallK) (T : TK) (s : StK), opK ty held call op T s = kA s (v.f T)

noncomputable def pBin (op : BinOp) (t : Nat) (x y : Operand) : Option VW :=
  Bool.rec (GW.rec (motive := fun _ => Option VW) (fun f => m2 (vBin f (oldBin ty held op t (isConst x || isConst y))) x y) (iopW op)) (m2 (vOld ty held op t (isConst x || isConst y)) x y) (isSh op)
noncomputable def pFA (t : Nat) (x : Operand) (f : Nat) : Option VW := ob (fieldEK ty t f) fun p => Bool.rec (m1 (vFA p.off) x) none (Nat.beq p.ti.size 0)
noncomputable def pIA (t : Nat) (x ix : Operand) : Option VW := ob (ty t) fun ti => m2 (vIA ty ti.desc) x ix
noncomputable def pPick (c a b : Operand) : Option VW := GW.rec (motive := fun _ => Option VW) (fun c => m2 (vPick c) a b) (oG c)
noncomputable def pLen (t : Nat) (x : Operand) : Option VW := ob (ty t) fun ti => ib (isSliceD ti.desc) (m1 vLen x) none
noncomputable def isLen : Builtin → Bool := fun b => match b with | .len => true | _ => false
noncomputable def pCall (c : Call) : Option VW := match c.callee with
  | .builtin b => ib (isLen b) (match c.args.toList, c.argTypes.toList with | [x], [t] => pLen ty t x | _, _ => none) none
  | _ => none
noncomputable def pureC : Op → Option VW :=
  Op.rec (motive := fun _ => Option VW) (m1 vMove) (m1 vMove) pPick (fun _ => none) (fun _ _ => none) (fun _ _ => none) (fun _ _ _ => none) (fun _ _ _ _ => none) (fun _ _ => none) (fun _ _ _ => none)
    (fun _ => none) (fun _ => none) (m1 vNil) (fun op t x y _ => pBin ty held op t x y) (fun op _ x => m1 (vUn op) x) (fun _ _ _ => none) (fun _ _ => none) (fun _ _ => none) (fun _ _ _ => none)
    (fun _ _ => none) (fun _ _ => none) (fun _ _ _ => none) (fun _ _ _ _ _ => none) (pFA ty) (fun _ _ _ => none) (pIA ty) (fun _ _ _ => none)
    (fun _ _ _ _ => none) (fun _ _ _ _ => none) (fun _ _ _ => none) (fun _ _ _ _ => none) (fun _ _ => none) (fun _ _ => none) (fun _ => none)
    (fun _ _ _ _ => none) (fun t i => m1 (fun g => vExt g i) t) (pCall ty) (fun _ => none) (fun _ => none) (fun _ => none) (fun _ _ => none) (fun _ _ _ => none) (fun _ _ => none)

theorem kM_aC (s : StK) (x : Option CV) : kM s x = kA s (aC x) := by cases x <;> rfl
theorem kT_some (s : StK) (x : Option TV) : kT s x = kA s (ob x fun t => some (.v t)) := by cases x <;> rfl
theorem ob_kA {α : Type} (s : StK) (x : Option α) (f : α → Option AV) : (ob x fun a => kA s (f a)) = kA s (ob x f) := by cases x <;> rfl
theorem aC_ob {α : Type} (x : Option α) (f : α → Option CV) : aC (ob x f) = ob x fun a => aC (f a) := by cases x <;> rfl

theorem vBin_eq {op : BinOp} (h : isSh op = false) (t : Nat) (cst : Bool) (x y : TK → Option AV) (T : TK) :
    vBin (iopW op).f (oldBin ty held op t cst) x y T = vOld ty held op t cst x y T := by
  unfold vBin vOld
  cases x T with
  | none => rfl
  | some u =>
    cases y T with
    | none => rfl
    | some v =>
      show intV? u _ _ = oldBin ty held op t cst u v
      cases u with
      | tup l => rfl
      | v u => cases u with
        | agg l => rfl
        | c u =>
          cases u <;> try rfl
          rename_i k a
          cases v with
          | tup l => rfl
          | v v => cases v with
            | agg l => rfl
            | c v =>
              cases v <;> try rfl
              rename_i j b
              show (Bool.rec none (aC ((iopW op).f k a b)) (beqKind k j) : Option AV) = aC (binIK op k a j b)
              rw [iopW_eq]
              cases op <;> first | (cases h; done) | (show _ = aC (ib (beqKind k j) _ none); cases beqKind k j <;> rfl)

theorem pure_ok (op : Op) (v : VW) (h : pureC ty held op = some v) : PureOk ty held op v := by
  intro call T s
  cases op <;> try (cases h; done)
  case move x => show kA s (evK T x) = kA s (v.f T); rw [m1_eq h, ← oG_eq]; rfl
  case assign x => show kA s (evK T x) = kA s (v.f T); rw [m1_eq h, ← oG_eq]; rfl
  case pick c a b =>
    have h : pPick c a b = some v := h
    unfold pPick at h
    cases e : oG c with
    | mk g =>
      rw [e] at h
      rw [m2_eq h]
      show ob (ob (evK T c) cOf) _ = kA s (boolV (g T) ((oG a).f T) ((oG b).f T))
      rw [show g T = evK T c by rw [← oG_eq, e], boolV_eq, ← ob_kA, oG_eq, oG_eq]
      congr 1; funext c
      rw [← ob_kA]
      congr 1; funext b
      cases b <;> rfl
  case nilCheck x =>
    rw [m1_eq h]
    show ob (ob (evK T x) cOf) _ = kA s (ptrV ((oG x).f T) _)
    rw [ptrV_eq, oG_eq, ← ob_kA]
    congr 1; funext c
    cases c <;> rfl
  case binOp op t x y t2 =>
    have h : pBin ty held op t x y = some v := h
    have key : v.f T = vOld ty held op t (isConst x || isConst y) (oG x).f (oG y).f T := by
      unfold pBin at h
      cases hs : isSh op with
      | true => rw [hs] at h; exact m2_eq h T
      | false =>
        rw [hs] at h
        cases e : iopW op with
        | mk f =>
          rw [e] at h
          have h1 : m2 (vBin f (oldBin ty held op t (isConst x || isConst y))) x y = some v := h
          rw [m2_eq h1 T, ← vBin_eq ty held hs, e]
    rw [key]
    show ob (ob (evK T x) tOf) _ = kA s (ob ((oG x).f T) fun u => ob ((oG y).f T) fun v => oldBin ty held op t (isConst x || isConst y) u v)
    rw [oG_eq, oG_eq, ob_ob, ← ob_kA]
    congr 1; funext u
    cases hu : tOf u with
    | none =>
      show none = kA s (ob (evK T y) fun v => oldBin ty held op t (isConst x || isConst y) u v)
      unfold oldBin
      rw [hu]
      cases evK T y <;> rfl
    | some u' =>
      show ob (ob (evK T y) tOf) _ = _
      rw [ob_ob, ← ob_kA]
      congr 1; funext v
      unfold oldBin
      rw [hu]
      show ob (tOf v) _ = kA s (ob (tOf v) _)
      rw [← ob_kA]
      congr 1; funext v'
      exact kM_aC s _
  case unOp op t x =>
    rw [m1_eq h]
    show ob (ob (evK T x) cOf) _ = kA s (aC (ob (ob ((oG x).f T) cOf) _))
    rw [oG_eq, aC_ob, ← ob_kA]
    congr 1; funext c
    exact kM_aC s _
  case fieldAddr t x f =>
    have h : pFA ty t x f = some v := h
    show kM s (ob (fieldEK ty t f) _) = _
    unfold pFA at h
    cases hp : fieldEK ty t f with
    | none => rw [hp] at h; cases h
    | some p =>
      rw [hp] at h
      have h : (Bool.rec (m1 (vFA p.off) x) none (Nat.beq p.ti.size 0) : Option VW) = some v := h
      cases hz : Nat.beq p.ti.size 0 with
      | true => rw [hz] at h; cases h
      | false =>
        rw [hz] at h
        have h : m1 (vFA p.off) x = some v := h
        rw [m1_eq h]
        show kM s (ob (ob (evK T x) cOf) fun v => os2 (ptrOf v) fun b o => ib (Nat.beq p.ti.size 0) none (some (.ptr b (Nat.add o p.off)))) = kA s (ptrV ((oG x).f T) _)
        rw [kM_aC, ptrV_eq, oG_eq, aC_ob, hz]
        congr 1
        congr 1; funext c
        cases c <;> rfl
  case indexAddr t x ix =>
    have h : pIA ty t x ix = some v := h
    unfold pIA at h
    show kM s (ob (ty t) _) = _
    cases hp : ty t with
    | none => rw [hp] at h; cases h
    | some ti =>
      rw [hp] at h
      have h : m2 (vIA ty ti.desc) x ix = some v := h
      rw [m2_eq h]
      show kM s _ = kA s (aC (ob (ob ((oG x).f T) cOf) _))
      rw [kM_aC, oG_eq, oG_eq]
      rfl
  case extract t i =>
    have h : m1 (fun g => vExt g i) t = some v := h
    rw [m1_eq h]
    show ob (evK T t) _ = kA s (ob ((oG t).f T) _)
    rw [oG_eq, ← ob_kA]
    congr 1; funext w
    exact kT_some s _
  case call c =>
    have h2 : pCall ty c = some v := h
    clear h
    unfold pCall at h2
    obtain ⟨callee, args, ats⟩ := c
    cases callee with
    | value f => cases h2
    | invoke r m => cases h2
    | builtin b =>
      simp only at h2
      rw [ib_match] at h2
      cases hb : isLen b with
      | false => rw [hb] at h2; cases h2
      | true =>
        rw [hb] at h2
        have hb' : b = .len := by
          unfold isLen at hb
          split at hb
          · rfl
          · cases hb
        subst hb'
        have h2 : (match args.toList, ats.toList with | [x], [t] => pLen ty t x | _, _ => none) = some v := h2
        split at h2
        · rename_i x t e1 e2
          unfold pLen at h2
          cases ht : ty t with
          | none => rw [ht] at h2; cases h2
          | some ti =>
            rw [ht] at h2
            have h2 : ib (isSliceD ti.desc) (m1 vLen x) none = some v := h2
            rw [ib_match] at h2
            cases hsl : isSliceD ti.desc with
            | false => rw [hsl] at h2; cases h2
            | true =>
              rw [hsl] at h2
              have h2 : m1 vLen x = some v := h2
              rw [m1_eq h2]
              show ib (isMK ty .len ats.toList) (bltMK ty held .len ats.toList args.toList T s) (kS (bltK ty .len ats.toList args.toList T s)) = _
              rw [e1, e2]
              have hm : isMapTK ty [t] = false := by
                show (Option.rec (motive := fun _ => Bool) false (fun _ => true) (ob (ty t) fun ti => os2 (mapD ti.desc) fun k e => ob (ty k) fun ki => ob (ty e) fun ei => some (MT.mk k ki.desc e ei)) : Bool) = false
                rw [ht]
                show Option.rec (motive := fun _ => Bool) false (fun _ => true) (os2 (mapD ti.desc) fun k e => ob (ty k) fun ki => ob (ty e) fun ei => some (MT.mk k ki.desc e ei)) = false
                have : mapD ti.desc = none := by
                  cases hd : ti.desc <;> simp only [hd, isSliceD] at hsl <;> first | rfl | cases hsl
                rw [this]; rfl
              show ib (isMapTK ty [t]) _ _ = _
              rw [hm]
              show kS (lenEK ty t x T s) = kA s (ob (ob ((oG x).f T) cOf) _)
              unfold lenEK
              rw [ht, oG_eq]
              show kS (ib (isSliceD ti.desc) (ob (evcK T x) _) none) = _
              rw [hsl]
              show kS (ob (ob (evK T x) cOf) _) = _
              cases ob (evK T x) cOf with
              | none => rfl
              | some c => show kS (ob (lenOfSlice c) _) = kA s (ob (lenOfSlice c) _); cases lenOfSlice c <;> rfl
        · cases h2
end
/-! where an operation's value goes -/
structure PW (β : Type) where
  f : AV → TK → (TK → Option β) → Option β
section
variable (β : Type)
noncomputable def dW (nt : Nat) (dst : Option Tmp) : PW β :=
  Option.rec (motive := fun _ => PW β) ⟨fun _ T k => k T⟩ (fun d => bw (Nat.blt d nt) (SW.rec (motive := fun _ => PW β) (fun st => ⟨fun v T k => st (some v) T k⟩) (sT AV (Option β) d)) ⟨fun _ _ _ => none⟩) dst
theorem dW_eq (nt : Nat) (dst : Option Tmp) (v : AV) (T : TK) (k : TK → Option β) : (dW β nt dst).f v T k = putTK nt T dst v k := by
  cases dst with
  | none => rfl
  | some d =>
    show (bw (Nat.blt d nt) (SW.rec (motive := fun _ => PW β) (fun st => ⟨fun v T k => st (some v) T k⟩) (sT AV (Option β) d)) ⟨fun _ _ _ => none⟩ : PW β).f v T k = ib (Nat.blt d nt) ((sT AV (Option β) d).f (some v) T k) none
    cases Nat.blt d nt with
    | false => rfl
    | true =>
      show (SW.rec (motive := fun _ => PW β) (fun st => ⟨fun v T k => st (some v) T k⟩) (sT AV (Option β) d) : PW β).f v T k = (sT AV (Option β) d).f (some v) T k
      cases sT AV (Option β) d
      rfl
end

/-! operations that look at memory, al closures -/
abbrev OC := CallK → TK → StK → R
structure OW where
  f : OC
noncomputable def lookB (s : StK) (b : Nat) : Option BK := StK.rec (fun h _ forb _ _ => ib (isForb forb b) none ((gT BK b).f h)) s
theorem lookB_eq (s : StK) (b : Nat) : lookB s b = getK s b := by cases s; rfl
noncomputable def plainR : Option BK → (List CV → R) → R :=
  Option.rec (motive := fun _ => (List CV → R) → R) (fun _ => none) (BK.rec (motive := fun _ => (List CV → R) → R) (fun cells _ _ x k => Option.rec (motive := fun _ => R) (k cells) (fun _ => none) x))
theorem plainR_eq (x : Option BK) (k : List CV → R) : plainR x k = ob (ob x plainB) fun bk => k bk.cells := by
  cases x with
  | none => rfl
  | some b => obtain ⟨c, e, o, x⟩ := b; cases x <;> rfl
noncomputable def oLoad (ti : TI) (g : TK → Option AV) : OC := fun _ T s => ptrR (g T) fun b o => plainR (lookB s b) fun l => Option.rec none (fun t => some (.v t, s)) (partK ti o l)
noncomputable def oOld (ty : Nat → Option TI) (held : Nat → Bool) (op : Op) : OC := fun call T s => opK ty held call op T s
noncomputable def oStore (n : Nat) (g x : TK → Option AV) : OC := fun _ T s => ptrR (g T) fun b o => ob (ob (x T) tOf) fun v => ib (Nat.beq (lenK v.cells) n) (ob (ob (lookB s b) plainB) fun bk => BK.rec (fun cells elem os _ => ob (overK o v.cells cells) fun cs => ob (putK s b (some ⟨cs, elem, os, none⟩)) fun s => some (.tup [], s)) bk) none
noncomputable def fnR : Option AV → (Nat → List (Nat × Nat) → R) → R :=
  Option.rec (motive := fun _ => (Nat → List (Nat × Nat) → R) → R) (fun _ => none) (AV.rec (motive := fun _ => (Nat → List (Nat × Nat) → R) → R) (TV.rec (motive := fun _ => (Nat → List (Nat × Nat) → R) → R) (CV.rec (motive := fun _ => (Nat → List (Nat × Nat) → R) → R)
    (fun _ _ => none) (fun _ _ _ => none) (fun _ _ => none) (fun _ _ _ => none) (fun _ => none) (fun _ _ _ _ _ => none) (fun _ => none) (fun f l k => k f l) (fun _ => none) (fun _ => none) (fun _ _ _ _ => none) (fun _ _ => none) (fun _ => none) (fun _ _ _ _ => none) (fun _ _ _ _ => none))
    (fun _ _ => none)) (fun _ _ => none))
theorem fnR_eq (x : Option AV) (k : Nat → List (Nat × Nat) → R) : fnR x k = ob (ob x cOf) fun c => os2 (fnOf c) k := by
  cases x with
  | none => rfl
  | some v => cases v with
    | tup l => rfl
    | v t => cases t with
      | agg l => rfl
      | c c => cases c <;> rfl
/-- arguments -/
structure LW where
  f : TK → (List AV → R) → R
noncomputable def lC (l : List Operand) : LW :=
  List.rec (motive := fun _ => LW) ⟨fun _ k => k []⟩ (fun x _ ih => LW.rec (motive := fun _ => LW) (fun r => GW.rec (motive := fun _ => LW) (fun g => ⟨fun T k => Option.rec (motive := fun _ => R) none (fun v => r T fun l => k (v :: l)) (g T)⟩) (oG x)) ih) l
theorem lC_eq (T : TK) : ∀ (l : List Operand) (k : List AV → R), (lC l).f T k = ob (evsK T l) k
  | [], k => rfl
  | x :: l, k => by
    show (LW.rec (motive := fun _ => LW) (fun r => GW.rec (motive := fun _ => LW) (fun g => ⟨fun T k => Option.rec (motive := fun _ => R) none (fun v => r T fun l => k (v :: l)) (g T)⟩) (oG x)) (lC l) : LW).f T k = ob (ob (evK T x) fun v => ob (evsK T l) fun r => some (v :: r)) k
    have h := lC_eq T l
    have h2 := oG_eq x T
    cases e : lC l with
    | mk r =>
      cases e2 : oG x with
      | mk g =>
        rw [e] at h; rw [e2] at h2
        show (Option.rec (motive := fun _ => R) none (fun v => r T fun l => k (v :: l)) (g T) : R) = _
        rw [show g T = evK T x from h2, ob_ob]
        cases evK T x with
        | none => rfl
        | some v =>
          show r T (fun l => k (v :: l)) = ob (ob (evsK T l) _) k
          rw [show r T _ = _ from h _, ob_ob]
          rfl
noncomputable def oCall (gf : TK → Option AV) (al : TK → (List AV → R) → R) : OC := fun call T s => fnR (gf T) fun g caps => al T fun l => call g (appAK l (capVals caps)) s

section
variable (ty : Nat → Option TI) (held : Nat → Bool)
noncomputable def w1 (F : (TK → Option AV) → OC) (x : Operand) : OW := GW.rec (motive := fun _ => OW) (fun g => ⟨F g⟩) (oG x)
noncomputable def wLoad (t : Nat) (a : Operand) : OW := Option.rec (motive := fun _ => OW) ⟨oOld ty held (.load t a)⟩ (fun ti => w1 (oLoad ti) a) (ty t)
noncomputable def wStore (t : Nat) (a x : Operand) : OW := Option.rec (motive := fun _ => OW) ⟨oOld ty held (.store t a x)⟩ (fun ti => GW.rec (motive := fun _ => OW) (fun h => w1 (fun g => oStore ti.size g h) a) (oG x)) (ty t)
noncomputable def wCall (c : Call) : OW := Callee.rec (motive := fun _ => OW) (fun f => LW.rec (motive := fun _ => OW) (fun al => w1 (fun g => oCall g al) f) (lC c.args.toList)) (fun _ _ => ⟨oOld ty held (.call c)⟩) (fun _ => ⟨oOld ty held (.call c)⟩) c.callee
noncomputable def oldW (op : Op) : OW := ⟨oOld ty held op⟩
noncomputable def oW : Op → OW :=
  Op.rec (motive := fun _ => OW) (fun a => oldW ty held (.move a)) (fun a => oldW ty held (.assign a)) (fun a b c => oldW ty held (.pick a b c)) (fun a => oldW ty held (.alloc a)) (fun a b => oldW ty held (.box a b)) (fun a b => oldW ty held (.build a b)) (fun a b c => oldW ty held (.buildSlice a b c)) (fun a b c d => oldW ty held (.insert a b c d)) (wLoad ty held) (wStore ty held)
    (fun a => oldW ty held (.ready a)) (fun a => oldW ty held (.waits a)) (fun a => oldW ty held (.nilCheck a)) (fun a b c d e => oldW ty held (.binOp a b c d e)) (fun a b c => oldW ty held (.unOp a b c)) (fun a b c => oldW ty held (.convert a b c)) (fun a b => oldW ty held (.sliceToArrayPointer a b)) (fun a b => oldW ty held (.makeInterface a b)) (fun a b c => oldW ty held (.makeFunc a b c))
    (fun a b => oldW ty held (.makeMap a b)) (fun a b => oldW ty held (.makeChan a b)) (fun a b c => oldW ty held (.makeSlice a b c)) (fun a b c d e => oldW ty held (.slice a b c d e)) (fun a b c => oldW ty held (.fieldAddr a b c)) (fun a b c => oldW ty held (.field a b c)) (fun a b c => oldW ty held (.indexAddr a b c)) (fun a b c => oldW ty held (.index a b c))
    (fun a b c d => oldW ty held (.lookup a b c d)) (fun a b c d => oldW ty held (.mapUpdate a b c d)) (fun a b c => oldW ty held (.mapEntry a b c)) (fun a b c d => oldW ty held (.entryStore a b c d)) (fun a b => oldW ty held (.range a b)) (fun a b => oldW ty held (.next a b)) (fun a => oldW ty held (.entry a))
    (fun a b c d => oldW ty held (.typeAssert a b c d)) (fun a b => oldW ty held (.extract a b)) (wCall ty held) (fun a => oldW ty held (.go a)) (fun a => oldW ty held (.defer a)) (fun a => oldW ty held (.panic a)) (fun a b => oldW ty held (.send a b)) (fun a b c => oldW ty held (.recv a b c)) (fun a b => oldW ty held (.select a b))

theorem w1_eq (F : (TK → Option AV) → OC) (x : Operand) : (w1 F x).f = F (oG x).f := by
  unfold w1
  cases oG x; rfl
theorem oG_fun (x : Operand) : (oG x).f = fun T => evK T x := funext fun T => oG_eq x T
theorem oW_eq (op : Op) (call : CallK) (T : TK) (s : StK) : (oW ty held op).f call T s = opK ty held call op T s := by
  cases op <;> try rfl
  case load t a =>
    show (wLoad ty held t a).f call T s = loadK ty t a T s
    unfold wLoad
    cases ht : ty t with
    | none => rfl
    | some ti =>
      show (w1 (oLoad ti) a).f call T s = _
      rw [w1_eq, oG_fun]
      show ptrR (evK T a) _ = ob (ob (evK T a) cOf) fun v => os2 (ptrOf v) fun b o => kT s (loadAtK ty t s b o)
      rw [ptrR_eq]
      congr 1; funext c
      congr 1; funext b o
      rw [plainR_eq, lookB_eq]
      show _ = kT s (ob (cgetK s b) fun bk => ob (ty t) fun ti => partK ti o bk.cells)
      rw [ht]
      show ob (cgetK s b) _ = _
      cases cgetK s b with
      | none => rfl
      | some bk =>
        show (Option.rec none (fun t => some (.v t, s)) (partK ti o bk.cells) : R) = kT s (partK ti o bk.cells)
        cases partK ti o bk.cells <;> rfl
  case store t a x =>
    show (wStore ty held t a x).f call T s = storeK ty t a x T s
    unfold wStore
    cases ht : ty t with
    | none => rfl
    | some ti =>
      show (GW.rec (motive := fun _ => OW) (fun h => w1 (fun g => oStore ti.size g h) a) (oG x) : OW).f call T s = _
      have h2 := oG_fun x
      cases e : oG x with
      | mk g2 =>
        rw [e] at h2
        have h2 : g2 = fun T => evK T x := h2
        subst h2
        show (w1 (fun g => oStore ti.size g fun T => evK T x) a).f call T s = _
        rw [w1_eq, oG_fun]
        show ptrR (evK T a) _ = ob (ob (evK T a) cOf) fun v => os2 (ptrOf v) fun b o => ob (ob (evK T x) tOf) fun v => storeAtK ty t s b o v
        rw [ptrR_eq]
        congr 1; funext c
        congr 1; funext b o
        congr 1; funext v
        unfold storeAtK
        rw [ht, lookB_eq]
        rfl
  case call c =>
    obtain ⟨callee, args, ats⟩ := c
    cases callee with
    | value f =>
      show (LW.rec (motive := fun _ => OW) (fun al => w1 (fun g => oCall g al) f) (lC args.toList) : OW).f call T s = ob (ob (evK T f) cOf) fun v => os2 (fnOf v) fun g caps => ob (evsK T args.toList) fun l => call g (appAK l (capVals caps)) s
      have h := lC_eq T args.toList
      cases e : lC args.toList with
      | mk al =>
        rw [e] at h
        show (w1 (fun g => oCall g al) f).f call T s = _
        rw [w1_eq, oG_fun]
        show fnR (evK T f) _ = _
        rw [fnR_eq]
        congr 1; funext c
        congr 1; funext g caps
        exact h _
    | invoke r m => rfl
    | builtin b => rfl

/-! regions -/
abbrev RF := CallK → TK → StK → (TK → StK → R) → R
structure RW where
  f : RF
noncomputable def rNil : RF := fun _ T s k => k T s
noncomputable def rPure (vf : TK → Option AV) (st : AV → TK → (TK → R) → R) (rest : RF) : RF := fun call T s k => Option.rec (motive := fun _ => R) none (fun v => st v T fun T => rest call T s k) (vf T)
noncomputable def rOp (o : OC) (st : AV → TK → (TK → R) → R) (rest : RF) : RF := fun call T s k => Option.rec (motive := fun _ => R) none (Prod.rec (motive := fun _ => R) fun v s => st v T fun T => rest call T s k) (o call T s)
noncomputable def rGuard (all : List Oper) (g : Option (Nat × Bool)) (th el : RF) : RF := fun call T s k => Option.rec (motive := fun _ => R) none (fun w => Bool.rec (motive := fun _ => R) (el call T s k) (th call T s k) w) (wantK all T g)
noncomputable def rSkip (st : AV → TK → (TK → R) → R) (rest : RF) : RF := fun call T s k => st (.tup []) T fun T => rest call T s k
noncomputable def rThen (op : Op) (st : AV → TK → (TK → R) → R) (rest : RF) : RW :=
  Option.rec (motive := fun _ => RW) (OW.rec (motive := fun _ => RW) (fun o => ⟨rOp o st rest⟩) (oW ty held op)) (fun v => GW.rec (motive := fun _ => RW) (fun vf => ⟨rPure vf st rest⟩) v) (pureC ty held op)
noncomputable def rC (nt : Nat) (all l : List Oper) : RW :=
  List.rec (motive := fun _ => RW) ⟨rNil⟩ (fun o _ ih => Oper.rec (motive := fun _ => RW) (fun dst op _ _ _ guard => RW.rec (motive := fun _ => RW) (fun rest => PW.rec (motive := fun _ => RW) (fun st =>
    RW.rec (motive := fun _ => RW) (fun th => Option.rec (motive := fun _ => RW) ⟨th⟩ (fun _ => ⟨rGuard all guard th (rSkip st rest)⟩) guard) (rThen ty held op st rest)) (dW (AV × StK) nt dst)) ih) o) l

theorem rThen_eq (op : Op) (st : AV → TK → (TK → R) → R) (rest : RF) (call : CallK) (T : TK) (s : StK) (k : TK → StK → R) :
    (rThen ty held op st rest).f call T s k = os2 (opK ty held call op T s) fun v s => st v T fun T => rest call T s k := by
  unfold rThen
  cases h : pureC ty held op with
  | none =>
    show (OW.rec (motive := fun _ => RW) (fun o => ⟨rOp o st rest⟩) (oW ty held op) : RW).f call T s k = _
    have h2 := oW_eq ty held op call T s
    cases e : oW ty held op with
    | mk o =>
      rw [e] at h2
      show (Option.rec (motive := fun _ => R) none (Prod.rec (motive := fun _ => R) fun v s => st v T fun T => rest call T s k) (o call T s) : R) = _
      rw [show o call T s = opK ty held call op T s from h2]
      rfl
  | some v =>
    have h2 := pure_ok ty held op v h call T s
    obtain ⟨vf⟩ := v
    show (Option.rec (motive := fun _ => R) none (fun v => st v T fun T => rest call T s k) (vf T) : R) = _
    rw [h2, kA_os2]
    rfl

theorem rC_eq (nt : Nat) (all : List Oper) (call : CallK) : ∀ (l : List Oper) (T : TK) (s : StK) (k : TK → StK → R), (rC ty held nt all l).f call T s k = os2 (opsK ty held call nt all l T s) k
  | [], T, s, k => rfl
  | ⟨dst, op, a, b, c, guard⟩ :: l, T, s, k => by
    have ih := rC_eq nt all call l
    have hd := dW_eq (AV × StK) nt dst
    show (RW.rec (motive := fun _ => RW) (fun rest => PW.rec (motive := fun _ => RW) (fun st =>
      RW.rec (motive := fun _ => RW) (fun th => Option.rec (motive := fun _ => RW) ⟨th⟩ (fun _ => ⟨rGuard all guard th (rSkip st rest)⟩) guard) (rThen ty held op st rest)) (dW (AV × StK) nt dst)) (rC ty held nt all l) : RW).f call T s k =
      os2 (ob (wantK all T guard) fun w => (Bool.rec (putTK nt T dst (.tup []) fun T => opsK ty held call nt all l T s) (os2 (opK ty held call op T s) fun v s => putTK nt T dst v fun T => opsK ty held call nt all l T s) w : Option (TK × StK))) k
    cases e : rC ty held nt all l with
    | mk rest =>
      rw [e] at ih
      have ih : ∀ T s k, rest call T s k = os2 (opsK ty held call nt all l T s) k := ih
      show (PW.rec (motive := fun _ => RW) (fun st => RW.rec (motive := fun _ => RW) (fun th => Option.rec (motive := fun _ => RW) ⟨th⟩ (fun _ => ⟨rGuard all guard th (rSkip st rest)⟩) guard) (rThen ty held op st rest)) (dW (AV × StK) nt dst) : RW).f call T s k = _
      cases e2 : dW (AV × StK) nt dst with
      | mk st =>
        rw [e2] at hd
        have hd : ∀ v T k, st v T k = putTK nt T dst v k := hd
        have ht := rThen_eq ty held op st rest call T s k
        have push : ∀ (v : AV) (s : StK), (st v T fun T => rest call T s k) = os2 (putTK nt T dst v fun T => opsK ty held call nt all l T s) k := by
          intro v s
          rw [hd]
          cases dst with
          | none => exact ih _ _ _
          | some d =>
            show ib (Nat.blt d nt) (T.set d (some v) _) none = os2 (ib (Nat.blt d nt) (T.set d (some v) _) none) k
            rw [set_eq, set_eq, ih]
            cases Nat.blt d nt <;> rfl
        have th : (rThen ty held op st rest).f call T s k = os2 (os2 (opK ty held call op T s) fun v s => putTK nt T dst v fun T => opsK ty held call nt all l T s) k := by
          rw [ht, os2_os2]
          congr 1; funext v s
          exact push v s
        show (RW.rec (motive := fun _ => RW) (fun th => Option.rec (motive := fun _ => RW) ⟨th⟩ (fun _ => ⟨rGuard all guard th (rSkip st rest)⟩) guard) (rThen ty held op st rest) : RW).f call T s k = _
        cases e3 : rThen ty held op st rest with
        | mk tf =>
          rw [e3] at th
          have th : tf call T s k = _ := th
          cases guard with
          | none => exact th
          | some g =>
            show (Option.rec (motive := fun _ => R) none (fun w => Bool.rec (motive := fun _ => R) (st (.tup []) T fun T => rest call T s k) (tf call T s k) w) (wantK all T (some g)) : R) = _
            rw [ob_os2]
            show ob (wantK all T (some g)) (fun w => (Bool.rec (motive := fun _ => R) (st (.tup []) T fun T => rest call T s k) (tf call T s k) w : R)) = _
            congr 1; funext w
            cases w with
            | true => exact th
            | false => exact push _ _
end
end Go.Proofs.YtjbnkokcbhfdgabGreatDoor.Ev
