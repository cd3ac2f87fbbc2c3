/- The evaluator, as closures: drawn regions. -/
import Derived.Test.YtjbnkokcbhfdgabGreatDoorXvH
namespace Go.Proofs.YtjbnkokcbhfdgabGreatDoor.Ev
open Go Go.RowKit
set_option linter.unusedVariables false
set_option linter.unusedSimpArgs false
set_option linter.unusedSectionVars false
set_option linter.unnecessarySimpa false
section
open Classical
def Le {α : Type} (a b : Option α) : Prop := ∀ r, a = some r → b = some r
theorem Le.refl {α : Type} (a : Option α) : Le a a := fun _ h => h
theorem Le.none {α : Type} (b : Option α) : Le none b := fun _ h => by cases h
theorem Le.of_eq {α : Type} {a b : Option α} (h : a = b) : Le a b := fun r e => h ▸ e

/-! a call that gives no more than is spoken of -/
def CallLe (c : CallK) (c' : CallF) : Prop := ∀ f l s, Le ((c f l s).map absP) (c' f l (absS s))
def usesCall : Op → Bool
  | .call c => match c.callee with | .value _ => true | _ => false
  | _ => false
theorem opK_nc {ty : Nat → Option TI} {held : Nat → Bool} (c : CallK) (c' : CallF) {op : Op} (h : usesCall op = false) (T : TK) (s : StK) : (opK ty held c op T s).map absP = opE ty held c' op T.get (absS s) := by
  have h0 : CallEq (fun _ _ _ => none) (fun _ _ _ => none) := fun _ _ _ => rfl
  have h1 := opK_eq (ty := ty) (held := held) h0 op T s
  have h2 : opK ty held c op T s = opK ty held (fun _ _ _ => none) op T s := by
    cases op <;> try rfl
    rename_i c
    obtain ⟨callee, args, ats⟩ := c
    cases callee <;> first | rfl | (simp [usesCall] at h)
  have h3 : opE ty held c' op T.get (absS s) = opE ty held (fun _ _ _ => none) op T.get (absS s) := by
    cases op <;> try rfl
    rename_i c
    obtain ⟨callee, args, ats⟩ := c
    cases callee <;> first | rfl | (simp [usesCall] at h)
  rw [h2, h3, h1]
theorem opK_le {ty : Nat → Option TI} {held : Nat → Bool} {c : CallK} {c' : CallF} (hc : CallLe c c') (op : Op) (T : TK) (s : StK) : Le ((opK ty held c op T s).map absP) (opE ty held c' op T.get (absS s)) := by
  cases hu : usesCall op with
  | false => exact Le.of_eq (opK_nc c c' hu T s)
  | true =>
    cases op <;> try (cases hu; done)
    rename_i cc
    obtain ⟨callee, args, ats⟩ := cc
    cases callee with
    | invoke r m => cases hu
    | builtin b => cases hu
    | value f =>
      show Le ((ob (evcK T f) fun v => os2 (fnOf v) fun g caps => ob (evsK T args.toList) fun l => c g (appAK l (capVals caps)) s).map absP) ((evc T.get f).bind fun v => (fnOf v).bind fun p => (evs T.get args.toList).bind fun l => c' p.1 (l ++ capVals p.2) (absS s))
      simp only [ob_eq, os2_eq, evcK_eq, evsK_eq, appAK_eq]
      cases evc T.get f with
      | none => exact Le.none _
      | some v =>
        show Le (((fnOf v).bind _).map absP) ((fnOf v).bind _)
        cases fnOf v with
        | none => exact Le.none _
        | some p =>
          show Le (((evs T.get args.toList).bind _).map absP) ((evs T.get args.toList).bind _)
          cases evs T.get args.toList with
          | none => exact Le.none _
          | some l => exact hc _ _ _

/-- what a writer left -/
structure SE where
  j : Nat
  m : Nat
  d : DoneK
structure DX where
  T : TK
  h : Tr BK
  n : Nat
  sp : List SE
  ds : List DoneK
  hs : List (Tr BK)
  lds : List Ld
noncomputable def absDX (x : DX) : DS := ⟨x.ds.map absD, x.T.get, x.h.get, x.n, x.hs.map Tr.get, x.lds⟩

def anyD (P : Nat → Nat → DoneK → Bool) : Nat → List Nat → List DoneK → Bool
  | _, _, [] => false
  | _, [], _ :: _ => false
  | j, m :: ms, d :: ds => P j m d || anyD P (j + 1) ms ds
def anyS (P : Nat → Nat → DoneK → Bool) : List SE → Bool
  | [] => false
  | e :: l => P e.j e.m e.d || anyS P l
theorem anyD_snoc (P : Nat → Nat → DoneK → Bool) (d : DoneK) {m : Nat} : ∀ (ds : List DoneK) (j : Nat) (ms : List Nat) (h : ms[ds.length]? = some m), anyD P j ms (ds ++ [d]) = (anyD P j ms ds || P (j + ds.length) m d)
  | [], j, ms, h => by
    cases ms with
    | nil => simp at h
    | cons x ms => simp at h; subst h; simp [anyD]
  | e :: ds, j, ms, h => by
    cases ms with
    | nil => simp at h
    | cons x ms =>
      have h : ms[ds.length]? = some m := by simpa using h
      simp only [List.cons_append, anyD, anyD_snoc P d ds (j + 1) ms h, List.length_cons, Bool.or_assoc]
      rw [show j + 1 + ds.length = j + (ds.length + 1) by omega]

/-- the sparse list holds what counts of the dense one -/
structure DInv (ms : List Nat) (i : Nat) (x : DX) : Prop where
  len : x.ds.length = i
  any : ∀ P : Nat → Nat → DoneK → Bool, (∀ j m n, P j m ⟨n, n, []⟩ = false) → anyD P 0 ms x.ds = anyS P x.sp

noncomputable def hideS (m : Nat) (sp : List SE) (f : List (Nat × Nat)) : List (Nat × Nat) := List.rec f (fun e _ ih => SE.rec (fun j _ d => Bool.rec (spanK d ih) ih (bitK m j)) e) sp
noncomputable def hideGS (i : Nat) (sp : List SE) (f : List (Nat × Nat)) : List (Nat × Nat) := List.rec f (fun e _ ih => SE.rec (fun j m d => Bool.rec ih (Bool.rec (singleK d.wr ih) ih (bitK m i)) (Nat.blt i j)) e) sp
noncomputable def nowrS (sp : List SE) : Bool := List.rec true (fun e _ ih => SE.rec (fun _ _ d => DoneK.rec (fun _ _ wr => List.rec ih (fun _ _ _ => false) wr) d) e) sp
noncomputable def logsS (mk : Nat) (sp : List SE) (r : List Nat) : List Nat := List.rec r (fun e _ ih => SE.rec (fun _ _ d => belowK mk d.wr ih) e) sp
/-- what was written was written the first time, too -/
noncomputable def wrAt (j : Nat) (sp : List SE) : List Nat := List.rec [] (fun e _ ih => SE.rec (fun j' _ d => Bool.rec ih d.wr (Nat.beq j j')) e) sp
noncomputable def guessedS (sq sp : List SE) : Bool := List.rec true (fun e _ ih => SE.rec (fun j _ d => DoneK.rec (fun _ _ wr => List.rec ih (fun _ _ _ => Bool.rec false ih (subK wr (wrAt j sp))) wr) d) e) sq

noncomputable def touchD (d : DoneK) (k : Nat) : Bool := (Nat.ble d.lo k && Nat.blt k d.hi) || memN d.wr k
theorem touch0 (n k : Nat) : touchD ⟨n, n, []⟩ k = false := by
  unfold touchD
  show ((Nat.ble n k && Nat.blt k n) || memN [] k) = false
  rw [show memN [] k = false from rfl, Bool.or_false]
  cases h : (Nat.ble n k && Nat.blt k n)
  · rfl
  · simp only [Bool.and_eq_true, Nat.ble_eq, Nat.blt_eq] at h; omega
theorem isForb_hideS (m k : Nat) : ∀ (sp : List SE) (f : List (Nat × Nat)), isForb (hideS m sp f) k = (isForb f k || anyS (fun j _ d => !Nat.testBit m j && touchD d k) sp)
  | [], f => by simp [anyS]; rfl
  | ⟨j, m', d⟩ :: sp, f => by
    rw [show hideS m (⟨j, m', d⟩ :: sp) f = Bool.rec (spanK d (hideS m sp f)) (hideS m sp f) (bitK m j) from rfl, bitK_eq]
    simp only [anyS]
    cases Nat.testBit m j
    · show isForb (spanK d _) k = _
      rw [isForb_span, isForb_hideS m k sp f]
      simp only [Bool.not_false, Bool.true_and, touchD]
      rw [Bool.or_left_comm]
    · show isForb (hideS m sp f) k = _
      rw [isForb_hideS m k sp f]; simp
theorem isForb_hideGS (i k : Nat) : ∀ (sp : List SE) (f : List (Nat × Nat)), isForb (hideGS i sp f) k = (isForb f k || anyS (fun j m d => Nat.blt i j && !Nat.testBit m i && memN d.wr k) sp)
  | [], f => by simp [anyS]; rfl
  | ⟨j, m, d⟩ :: sp, f => by
    rw [show hideGS i (⟨j, m, d⟩ :: sp) f = Bool.rec (hideGS i sp f) (Bool.rec (singleK d.wr (hideGS i sp f)) (hideGS i sp f) (bitK m i)) (Nat.blt i j) from rfl, bitK_eq]
    simp only [anyS]
    cases Nat.blt i j
    · show isForb (hideGS i sp f) k = _
      rw [isForb_hideGS i k sp f]; simp
    · cases Nat.testBit m i
      · show isForb (singleK d.wr _) k = _
        rw [isForb_single, isForb_hideGS i k sp f]
        simp only [Bool.not_false, Bool.true_and]
        rw [Bool.or_left_comm]
      · show isForb (hideGS i sp f) k = _
        rw [isForb_hideGS i k sp f]; simp
theorem anyD_hide (m k : Nat) : ∀ (ds : List DoneK) (j : Nat) (ms : List Nat), ds.length ≤ ms.length → anyD (fun j _ d => !Nat.testBit m j && touchD d k) j ms ds = hideD m k j (ds.map absD)
  | [], j, ms, _ => by cases ms <;> rfl
  | d :: ds, j, ms, h => by
    cases ms with
    | nil => simp at h
    | cons x ms =>
      simp only [anyD, List.map_cons, hideD, anyD_hide m k ds (j + 1) ms (by simpa using h)]
      rfl
theorem hideG_nil (i k : Nat) : ∀ (ms : List Nat) (j : Nat), hideG i k j (guess1 ms []) = false
  | [], j => rfl
  | m :: ms, j => by
    simp only [guess1, hideG, Bool.and_false, Bool.false_or]
    exact hideG_nil i k ms (j + 1)
theorem anyD_hideG (i k : Nat) : ∀ (ds : List DoneK) (j : Nat) (ms : List Nat), ds.length ≤ ms.length → anyD (fun j m d => Nat.blt i j && !Nat.testBit m i && memN d.wr k) j ms ds = hideG i k j (guess1 ms (ds.map absD))
  | [], j, ms, _ => by
    rw [show anyD _ j ms [] = false from by cases ms <;> rfl]
    exact (hideG_nil i k ms j).symm
  | d :: ds, j, ms, h => by
    cases ms with
    | nil => simp at h
    | cons x ms =>
      simp only [anyD, List.map_cons, guess1, hideG, anyD_hideG i k ds (j + 1) ms (by simpa using h)]
      rfl
theorem hideG_guess0 (i k : Nat) : ∀ (ms : List Nat) (j : Nat), hideG i k j (guess0 ms) = false
  | [], j => rfl
  | m :: ms, j => by
    have := hideG_guess0 i k ms (j + 1)
    simp only [guess0, List.map_cons, hideG, Bool.and_false, Bool.false_or] at this ⊢
    exact this

/-! closures -/
abbrev HG := Nat → List (Nat × Nat) → List (Nat × Nat)
abbrev DF := CallK → HG → List (Nat × Nat) → DX → (DX → R) → R
structure DW where
  f : DF
noncomputable def dNil : DF := fun _ _ _ x k => k x
noncomputable def dNone : DF := fun _ _ _ _ _ => none
noncomputable def dPure (vf : TK → Option AV) (st : AV → TK → (TK → R) → R) (rest : DF) : DF := fun call hg f0 x k =>
  DX.rec (motive := fun _ => R) (fun T h n sp ds hs lds => Option.rec (motive := fun _ => R) none (fun v => st v T fun T => rest call hg f0 ⟨T, h, n, sp, snocK ds ⟨n, n, []⟩, snocK hs h, lds⟩ k) (vf T)) x
noncomputable def plainV : Option BK → (List CV → Option AV) → Option AV :=
  Option.rec (motive := fun _ => (List CV → Option AV) → Option AV) (fun _ => none) (BK.rec (motive := fun _ => (List CV → Option AV) → Option AV) (fun cells _ _ x k => Option.rec (motive := fun _ => Option AV) (k cells) (fun _ => none) x))
theorem plainV_eq (x : Option BK) (k : List CV → Option AV) : plainV x k = ob (ob x plainB) fun bk => k bk.cells := by
  cases x with
  | none => rfl
  | some b => obtain ⟨c, e, o, x⟩ := b; cases x <;> rfl
noncomputable def rdV (ti : TI) (g : TK → Option AV) (T : TK) (s : StK) : Option AV := ptrV (g T) fun b o => plainV (lookB s b) fun l => Option.rec (motive := fun _ => Option AV) none (fun t => some (.v t)) (partK ti o l)
noncomputable def dLoad (ty : Nat → Option TI) (op : Op) (ti : TI) (g : TK → Option AV) (st : AV → TK → (TK → R) → R) (i m : Nat) (rest : DF) : DF := fun call hg f0 x k =>
  DX.rec (motive := fun _ => R) (fun T h n sp ds hs lds => Option.rec (motive := fun _ => R)
    (ob (looseK ty op T f0 h n i m) fun l => st (.v l.v) T fun T => rest call hg f0 ⟨T, h, n, sp, snocK ds ⟨n, n, []⟩, snocK hs h, l :: lds⟩ k)
    (fun v => st v T fun T => rest call hg f0 ⟨T, h, n, sp, snocK ds ⟨n, n, []⟩, snocK hs h, lds⟩ k) (rdV ti g T ⟨h, n, hg i (hideS m sp f0), n, []⟩)) x
noncomputable def dOp (ty : Nat → Option TI) (op : Op) (o : OC) (st : AV → TK → (TK → R) → R) (i m : Nat) (rest : DF) : DF := fun call hg f0 x k =>
  DX.rec (motive := fun _ => R) (fun T h n sp ds hs lds => Option.rec (motive := fun _ => R)
    (ob (looseK ty op T f0 h n i m) fun l => st (.v l.v) T fun T => rest call hg f0 ⟨T, h, n, sp, snocK ds ⟨n, n, []⟩, snocK hs h, l :: lds⟩ k)
    (Prod.rec (motive := fun _ => R) fun v s => StK.rec (motive := fun _ => R) (fun h' n' _ _ log => st v T fun T => rest call hg f0 ⟨T, h', n', ⟨i, m, ⟨n, n', log⟩⟩ :: sp, snocK ds ⟨n, n', log⟩, snocK hs h, lds⟩ k) s)
    (o call T ⟨h, n, hg i (hideS m sp f0), n, []⟩)) x
noncomputable def dSkip (st : AV → TK → (TK → R) → R) (rest : DF) : DF := fun call hg f0 x k =>
  DX.rec (motive := fun _ => R) (fun T h n sp ds hs lds => st (.tup []) T fun T => rest call hg f0 ⟨T, h, n, sp, snocK ds ⟨n, n, []⟩, snocK hs h, lds⟩ k) x
noncomputable def dGuard (all : List Oper) (g : Option (Nat × Bool)) (th el : DF) : DF := fun call hg f0 x k => Option.rec (motive := fun _ => R) none (fun w => Bool.rec (motive := fun _ => R) (el call hg f0 x k) (th call hg f0 x k) w) (wantK all x.T g)

section
variable (ty : Nat → Option TI) (held : Nat → Bool)
noncomputable def dOther (op : Op) (st : AV → TK → (TK → R) → R) (i m : Nat) (rest : DF) : DW := OW.rec (motive := fun _ => DW) (fun o => ⟨dOp ty op o st i m rest⟩) (oW ty held op)
noncomputable def loadArg : Op → Option (Nat × Operand) := fun op => match op with | .load t a => some (t, a) | _ => none
noncomputable def dRead (op : Op) (st : AV → TK → (TK → R) → R) (i m : Nat) (rest : DF) : DW :=
  Option.rec (motive := fun _ => DW) (dOther ty held op st i m rest) (fun p => Option.rec (motive := fun _ => DW) (dOther ty held op st i m rest) (fun ti => GW.rec (motive := fun _ => DW) (fun g => ⟨dLoad ty op ti g st i m rest⟩) (oG p.2)) (ty p.1)) (loadArg op)
noncomputable def dThen (op : Op) (st : AV → TK → (TK → R) → R) (i m : Nat) (rest : DF) : DW :=
  Option.rec (motive := fun _ => DW) (dRead ty held op st i m rest) (fun v => GW.rec (motive := fun _ => DW) (fun vf => ⟨dPure vf st rest⟩) v) (pureC ty held op)
noncomputable def dC (nt : Nat) (all l : List Oper) : Nat → List Nat → DW :=
  List.rec (motive := fun _ => Nat → List Nat → DW) (fun _ _ => ⟨dNil⟩) (fun o _ ih i ms => List.rec (motive := fun _ => DW) ⟨dNone⟩ (fun m ms _ => Oper.rec (motive := fun _ => DW) (fun dst op _ _ _ guard =>
    DW.rec (motive := fun _ => DW) (fun rest => PW.rec (motive := fun _ => DW) (fun st => DW.rec (motive := fun _ => DW) (fun th => Option.rec (motive := fun _ => DW) ⟨th⟩ (fun _ => ⟨dGuard all guard th (dSkip st rest)⟩) guard) (dThen ty held op st i m rest)) (dW (AV × StK) nt dst)) (ih (Nat.succ i) ms)) o) ms) l

variable {ty held}
variable {c : CallK} {c' : CallF} {nt : Nat}

theorem st_le {st : AV → TK → (TK → R) → R} {dst : Option Tmp} (hst : ∀ v T k, st v T k = putTK nt T dst v k) {k : TK → R} {k' : TM → Option (AV × St)} (hk : ∀ T, Le ((k T).map absP) (k' T.get)) (v : AV) (T : TK) :
    Le ((st v T k).map absP) ((putE nt T.get dst v).bind k') := by
  rw [hst]
  cases dst with
  | none => exact hk T
  | some d =>
    show Le ((ib (Nat.blt d nt) (T.set d (some v) k) none).map absP) ((chk (Nat.blt d nt) (some (upd T.get d (some v)))).bind k')
    rw [ib_eq, set_eq]
    cases Nat.blt d nt
    · exact Le.none _
    · have := hk (Tr.put (some v) (pth d) T)
      rw [put_get'] at this
      exact this

theorem DInv.triv {ms : List Nat} {i : Nat} {x : DX} (h : DInv ms i x) (hi : i < ms.length) (T : TK) (n : Nat) (hp : Tr BK) (m : Nat) (hs : List (Tr BK)) (lds : List Ld) : DInv ms (i + 1) ⟨T, hp, m, x.sp, snocK x.ds ⟨n, n, []⟩, hs, lds⟩ := by
  refine ⟨by simp only [snocK_eq, List.length_append, List.length_singleton, h.len], fun P hP => ?_⟩
  show anyD P 0 ms (snocK x.ds ⟨n, n, []⟩) = anyS P x.sp
  rw [snocK_eq, anyD_snoc P _ (m := ms[x.ds.length]'(by rw [h.len]; exact hi)) x.ds 0 ms (List.getElem?_eq_getElem _), hP, Bool.or_false]
  exact h.any P hP
theorem DInv.push {ms : List Nat} {i : Nat} {x : DX} (h : DInv ms i x) {m : Nat} (hm : ms[i]? = some m) (d : DoneK) (T : TK) (hp : Tr BK) (n : Nat) (hs : List (Tr BK)) (lds : List Ld) : DInv ms (i + 1) ⟨T, hp, n, ⟨i, m, d⟩ :: x.sp, snocK x.ds d, hs, lds⟩ := by
  refine ⟨by simp only [snocK_eq, List.length_append, List.length_singleton, h.len], fun P hP => ?_⟩
  show anyD P 0 ms (snocK x.ds d) = (P i m d || anyS P x.sp)
  rw [snocK_eq, anyD_snoc P d (m := m) x.ds 0 ms (by rw [h.len]; exact hm), h.any P hP, h.len, Nat.zero_add, Bool.or_comm]

/-- the state that an operation is run in -/
theorem state_eq {ms : List Nat} {i m : Nat} {T : TK} {h : Tr BK} {n : Nat} {sp : List SE} {ds : List DoneK} {hs : List (Tr BK)} {lds : List Ld} (hx : DInv ms i ⟨T, h, n, sp, ds, hs, lds⟩) (hi : i ≤ ms.length) {hg : HG} {gs : List (Nat × (Nat → Bool))} (hhg : ∀ i f k, isForb (hg i f) k = (isForb f k || hideG i k 0 gs)) (f0 : List (Nat × Nat)) :
    absS ⟨h, n, hg i (hideS m sp f0), n, []⟩ = ⟨h.get, n, forbE (isForb f0) i m (ds.map absD) gs, n, fun _ => false⟩ := by
  unfold absS
  have h1 : isForb (hg i (hideS m sp f0)) = forbE (isForb f0) i m (ds.map absD) gs := by
    funext k
    have h2 := hx.any (fun j _ d => !Nat.testBit m j && touchD d k) (fun j m n => by rw [touch0, Bool.and_false])
    have hl : ds.length ≤ ms.length := by have := hx.len; simp only at this; omega
    rw [hhg, isForb_hideS]
    unfold forbE
    rw [← anyD_hide m k ds 0 ms hl]
    simp only at h2
    rw [h2]
  have h2 : memN [] = fun _ => false := rfl
  simp only [h1, h2]

theorem snoc_map {hs : List (Tr BK)} {h : Tr BK} : hs.map Tr.get ++ [h.get] = (snocK hs h).map Tr.get := by rw [snocK_eq]; simp
theorem snoc_mapD {ds : List DoneK} {d : DoneK} : ds.map absD ++ [absD d] = (snocK ds d).map absD := by rw [snocK_eq]; simp

/-- one operation whose guard lets it run -/
def draw1T (ty : Nat → Option TI) (held : Nat → Bool) (call : CallF) (nt : Nat) (gs : List (Nat × (Nat → Bool))) (f0 : Nat → Bool) (dst : Option Tmp) (op : Op) (i m : Nat) (x : DS) : Option DS :=
  match opE ty held call op x.T ⟨x.h, x.n, forbE f0 i m x.ds gs, x.n, fun _ => false⟩ with
      | some p => (putE nt x.T dst p.1).bind fun T => some ⟨x.ds ++ [⟨x.n, p.2.n, p.2.w⟩], T, p.2.h, p.2.n, x.hs ++ [x.h], x.lds⟩
      | none => (looseE ty op x.T f0 x.h x.n i m).bind fun l => (putE nt x.T dst (.v l.v)).bind fun T => some ⟨x.ds ++ [⟨x.n, x.n, fun _ => false⟩], T, x.h, x.n, x.hs ++ [x.h], l :: x.lds⟩
def draw1F (nt : Nat) (dst : Option Tmp) (x : DS) : Option DS := (putE nt x.T dst (.tup [])).bind fun T => some ⟨x.ds ++ [⟨x.n, x.n, fun _ => false⟩], T, x.h, x.n, x.hs ++ [x.h], x.lds⟩

theorem absD0 (n : Nat) : absD ⟨n, n, []⟩ = ⟨n, n, fun _ => false⟩ := rfl

section
variable (hc : CallLe c c') {ms : List Nat} {i m : Nat} (hm : ms[i]? = some m) {hg : HG} {gs : List (Nat × (Nat → Bool))} (hhg : ∀ i f k, isForb (hg i f) k = (isForb f k || hideG i k 0 gs)) (f0 : List (Nat × Nat))
  {st : AV → TK → (TK → R) → R} {dst : Option Tmp} (hst : ∀ v T k, st v T k = putTK nt T dst v k) {rest : DF} {k : DX → R} {k' : DS → Option (AV × St)}
  (hrest : ∀ y, DInv ms (i + 1) y → Le ((rest c hg f0 y k).map absP) (k' (absDX y))) {x : DX} (hx : DInv ms i x)
include hm hst hrest hx

theorem dSkip_le : Le ((dSkip st rest c hg f0 x k).map absP) ((draw1F nt dst (absDX x)).bind k') := by
  have hi : i < ms.length := (List.getElem?_eq_some_iff.1 hm).1
  obtain ⟨T, h, n, sp, ds, hs, lds⟩ := x
  unfold draw1F
  rw [Option.bind_assoc]
  refine st_le (k' := fun T => k' ⟨ds.map absD ++ [⟨n, n, fun _ => false⟩], T, h.get, n, hs.map Tr.get ++ [h.get], lds⟩) hst (fun T' => ?_) (.tup []) T
  have := hrest _ (hx.triv hi T' n h n (snocK hs h) lds)
  rw [snoc_map, ← absD0, snoc_mapD]
  exact this

theorem loose_le {op : Op} (T : TK) (h : Tr BK) (n : Nat) (sp : List SE) (ds : List DoneK) (hs : List (Tr BK)) (lds : List Ld) (e : x = ⟨T, h, n, sp, ds, hs, lds⟩) :
    Le ((ob (looseK ty op T f0 h n i m) fun l => st (.v l.v) T fun T => rest c hg f0 ⟨T, h, n, sp, snocK ds ⟨n, n, []⟩, snocK hs h, l :: lds⟩ k).map absP)
      (((looseE ty op T.get (isForb f0) h.get n i m).bind fun l => (putE nt T.get dst (.v l.v)).bind fun T => some (DS.mk (ds.map absD ++ [⟨n, n, fun _ => false⟩]) T h.get n (hs.map Tr.get ++ [h.get]) (l :: lds))).bind k') := by
  have hi : i < ms.length := (List.getElem?_eq_some_iff.1 hm).1
  subst e
  rw [looseK_eq]
  cases looseE ty op T.get (isForb f0) h.get n i m with
  | none => exact Le.none _
  | some l =>
    show Le ((st (.v l.v) T _).map absP) (((putE nt T.get dst (.v l.v)).bind _).bind k')
    rw [Option.bind_assoc]
    refine st_le (k' := fun T => k' ⟨ds.map absD ++ [⟨n, n, fun _ => false⟩], T, h.get, n, hs.map Tr.get ++ [h.get], l :: lds⟩) hst (fun T' => ?_) _ T
    have := hrest _ (hx.triv hi T' n h n (snocK hs h) (l :: lds))
    rw [snoc_map, ← absD0, snoc_mapD]
    exact this

include hc hhg
theorem dPure_le {op : Op} {vf : TK → Option AV} (hp : PureOk ty held op ⟨vf⟩) (hl : ∀ T f0 h n i m, looseE ty op T f0 h n i m = none) (hu : usesCall op = false) :
    Le ((dPure vf st rest c hg f0 x k).map absP) ((draw1T ty held c' nt gs (isForb f0) dst op i m (absDX x)).bind k') := by
  have hi : i < ms.length := (List.getElem?_eq_some_iff.1 hm).1
  obtain ⟨T, h, n, sp, ds, hs, lds⟩ := x
  have hs' := state_eq (m := m) hx (Nat.le_of_lt hi) hhg f0
  have hop := opK_nc (ty := ty) (held := held) c c' hu T ⟨h, n, hg i (hideS m sp f0), n, []⟩
  have hp' : ∀ (call : CallK) (T : TK) (s : StK), opK ty held call op T s = kA s (vf T) := hp
  rw [hs', hp' c T] at hop
  unfold draw1T
  show Le ((Option.rec (motive := fun _ => R) none _ (vf T) : R).map absP) (Option.bind (α := DS) (match opE ty held c' op T.get ⟨h.get, n, forbE (isForb f0) i m (ds.map absD) gs, n, fun _ => false⟩ with
    | some p => _
    | none => _) k')
  rw [← hop]
  cases vf T with
  | none => exact Le.none _
  | some v =>
    show Le ((st v T _).map absP) (((putE nt T.get dst v).bind _).bind k')
    rw [Option.bind_assoc]
    refine st_le (k' := fun T => k' ⟨ds.map absD ++ [⟨n, n, memN []⟩], T, h.get, n, hs.map Tr.get ++ [h.get], lds⟩) hst (fun T' => ?_) v T
    have := hrest _ (hx.triv hi T' n h n (snocK hs h) lds)
    rw [snoc_map, show (⟨n, n, memN []⟩ : Done) = absD ⟨n, n, []⟩ from rfl, snoc_mapD]
    exact this

theorem dLoad_le {t : Nat} {a : Operand} {ti : TI} (ht : ty t = some ti) {g : TK → Option AV} (hgg : g = fun T => evK T a) :
    Le ((dLoad ty (.load t a) ti g st i m rest c hg f0 x k).map absP) ((draw1T ty held c' nt gs (isForb f0) dst (.load t a) i m (absDX x)).bind k') := by
  have hi : i < ms.length := (List.getElem?_eq_some_iff.1 hm).1
  obtain ⟨T, h, n, sp, ds, hs, lds⟩ := x
  have hs' := state_eq (m := m) hx (Nat.le_of_lt hi) hhg f0
  have hop := opK_nc (ty := ty) (held := held) c c' (op := .load t a) rfl T ⟨h, n, hg i (hideS m sp f0), n, []⟩
  have hrd : ∀ s, opK ty held c (.load t a) T s = kA s (rdV ti g T s) := by
    intro s
    subst hgg
    show ob (ob (evK T a) cOf) (fun v => os2 (ptrOf v) fun b o => kT s (loadAtK ty t s b o)) = kA s (ptrV (evK T a) _)
    rw [ptrV_eq, ← ob_kA]
    congr 1; funext cv
    cases cv <;> try rfl
    rename_i b o
    show kT s (ob (cgetK s b) fun bk => ob (ty t) fun ti => partK ti o bk.cells) = kA s (plainV (lookB s b) _)
    rw [ht, plainV_eq, lookB_eq]
    show kT s (ob (cgetK s b) _) = kA s (ob (cgetK s b) _)
    cases cgetK s b with
    | none => rfl
    | some bk =>
      show kT s (partK ti o bk.cells) = kA s (Option.rec (motive := fun _ => Option AV) none (fun t => some (.v t)) (partK ti o bk.cells))
      cases partK ti o bk.cells <;> rfl
  rw [hs', hrd] at hop
  unfold draw1T
  show Le ((Option.rec (motive := fun _ => R) _ _ (rdV ti g T ⟨h, n, hg i (hideS m sp f0), n, []⟩) : R).map absP) (Option.bind (α := DS) (match opE ty held c' (.load t a) T.get ⟨h.get, n, forbE (isForb f0) i m (ds.map absD) gs, n, fun _ => false⟩ with
    | some p => _
    | none => _) k')
  rw [← hop]
  cases rdV ti g T ⟨h, n, hg i (hideS m sp f0), n, []⟩ with
  | none => exact loose_le hm f0 hst hrest hx T h n sp ds hs lds rfl
  | some v =>
    show Le ((st v T _).map absP) (((putE nt T.get dst v).bind _).bind k')
    rw [Option.bind_assoc]
    refine st_le (k' := fun T => k' ⟨ds.map absD ++ [⟨n, n, memN []⟩], T, h.get, n, hs.map Tr.get ++ [h.get], lds⟩) hst (fun T' => ?_) v T
    have := hrest _ (hx.triv hi T' n h n (snocK hs h) lds)
    rw [snoc_map, show (⟨n, n, memN []⟩ : Done) = absD ⟨n, n, []⟩ from rfl, snoc_mapD]
    exact this

theorem dOp_le {op : Op} {o : OC} (ho : ∀ T s, o c T s = opK ty held c op T s) :
    Le ((dOp ty op o st i m rest c hg f0 x k).map absP) ((draw1T ty held c' nt gs (isForb f0) dst op i m (absDX x)).bind k') := by
  have hi : i < ms.length := (List.getElem?_eq_some_iff.1 hm).1
  obtain ⟨T, h, n, sp, ds, hs, lds⟩ := x
  have hs' := state_eq (m := m) hx (Nat.le_of_lt hi) hhg f0
  have hop := opK_le (ty := ty) (held := held) hc op T ⟨h, n, hg i (hideS m sp f0), n, []⟩
  rw [hs', ← ho] at hop
  unfold draw1T
  show Le ((Option.rec (motive := fun _ => R) _ _ (o c T ⟨h, n, hg i (hideS m sp f0), n, []⟩) : R).map absP) (Option.bind (α := DS) (match opE ty held c' op T.get ⟨h.get, n, forbE (isForb f0) i m (ds.map absD) gs, n, fun _ => false⟩ with
    | some p => _
    | none => _) k')
  cases ho' : o c T ⟨h, n, hg i (hideS m sp f0), n, []⟩ with
  | none =>
    cases hu : usesCall op with
    | true =>
      have hl : looseK ty op T f0 h n i m = none := by
        cases op <;> first | rfl | (cases hu; done)
      show Le ((ob (looseK ty op T f0 h n i m) _).map absP) _
      rw [hl]
      exact Le.none _
    | false =>
      have hop2 := opK_nc (ty := ty) (held := held) c c' hu T ⟨h, n, hg i (hideS m sp f0), n, []⟩
      rw [hs', ← ho, ho'] at hop2
      rw [← hop2]
      exact loose_le hm f0 hst hrest hx T h n sp ds hs lds rfl
  | some p =>
    rw [ho'] at hop
    rw [hop _ rfl]
    obtain ⟨v, ⟨h', n', fb, mk, log⟩⟩ := p
    show Le ((st v T _).map absP) (((putE nt T.get dst v).bind _).bind k')
    rw [Option.bind_assoc]
    refine st_le (k' := fun T => k' ⟨ds.map absD ++ [⟨n, n', memN log⟩], T, h'.get, n', hs.map Tr.get ++ [h.get], lds⟩) hst (fun T' => ?_) v T
    have := hrest _ (hx.push hm ⟨n, n', log⟩ T' h' n' (snocK hs h) lds)
    rw [snoc_map, show (⟨n, n', memN log⟩ : Done) = absD ⟨n, n', log⟩ from rfl, snoc_mapD]
    exact this

theorem dThen_le (op : Op) : Le (((dThen ty held op st i m rest).f c hg f0 x k).map absP) ((draw1T ty held c' nt gs (isForb f0) dst op i m (absDX x)).bind k') := by
  have hother : Le (((dOther ty held op st i m rest).f c hg f0 x k).map absP) ((draw1T ty held c' nt gs (isForb f0) dst op i m (absDX x)).bind k') := by
    unfold dOther
    have h2 := fun T s => oW_eq ty held op c T s
    cases e : oW ty held op with
    | mk o =>
      rw [e] at h2
      exact dOp_le hc hm hhg f0 hst hrest hx h2
  unfold dThen
  cases hp : pureC ty held op with
  | some v =>
    have h2 := pure_ok ty held op v hp
    obtain ⟨vf⟩ := v
    have hu : usesCall op = false := by
      cases op <;> try rfl
      rename_i cc
      obtain ⟨callee, args, ats⟩ := cc
      cases callee <;> first | rfl | (cases hp; done)
    refine dPure_le hc hm hhg f0 hst hrest hx h2 (fun T f0 h n i m => ?_) hu
    cases op <;> first | rfl | (cases hp; done)
  | none =>
    show Le (((dRead ty held op st i m rest).f c hg f0 x k).map absP) _
    unfold dRead
    cases hl : loadArg op with
    | none => exact hother
    | some p =>
      obtain ⟨t, a⟩ := p
      have hop : op = .load t a := by
        unfold loadArg at hl
        split at hl
        · cases hl; rfl
        · cases hl
      subst hop
      show Le (((Option.rec (motive := fun _ => DW) (dOther ty held (.load t a) st i m rest) (fun ti => GW.rec (motive := fun _ => DW) (fun g => ⟨dLoad ty (.load t a) ti g st i m rest⟩) (oG a)) (ty t) : DW).f c hg f0 x k).map absP) _
      cases ht : ty t with
      | none => exact hother
      | some ti =>
        show Le (((GW.rec (motive := fun _ => DW) (fun g => ⟨dLoad ty (.load t a) ti g st i m rest⟩) (oG a) : DW).f c hg f0 x k).map absP) _
        have h2 := oG_fun a
        cases e : oG a with
        | mk g =>
          rw [e] at h2
          exact dLoad_le hc hm hhg f0 hst hrest hx ht h2
end

theorem draw1_eq (all : List Oper) (gs : List (Nat × (Nat → Bool))) (f0 : Nat → Bool) (dst : Option Tmp) (op : Op) (a : Nat) (b : String) (af : Array Edge) (guard : Option (Nat × Bool)) (i m : Nat) (x : DS) :
    draw1 ty held c' nt all gs f0 ⟨dst, op, a, b, af, guard⟩ i m x = (wantE all x.T guard).bind fun w => match w with | false => draw1F nt dst x | true => draw1T ty held c' nt gs f0 dst op i m x := rfl

theorem dC_le (hc : CallLe c c') {ms : List Nat} {hg : HG} {gs : List (Nat × (Nat → Bool))} (hhg : ∀ i f k, isForb (hg i f) k = (isForb f k || hideG i k 0 gs)) (f0 : List (Nat × Nat)) (all : List Oper) {k : DX → R} {k' : DS → Option (AV × St)} :
    ∀ (l : List Oper) (i : Nat) (ms' : List Nat) (hms : ms.drop i = ms') (x : DX) (hx : DInv ms i x) (hk : ∀ y, DInv ms (i + l.length) y → Le ((k y).map absP) (k' (absDX y))),
      Le (((dC ty held nt all l i ms').f c hg f0 x k).map absP) ((drawE ty held c' nt all gs (isForb f0) l i ms' (absDX x)).bind k')
  | [], i, ms', hms, x, hx, hk => hk x hx
  | ⟨dst, op, a, b, af, guard⟩ :: l, i, [], hms, x, hx, hk => Le.none _
  | ⟨dst, op, a, b, af, guard⟩ :: l, i, m :: ms', hms, x, hx, hk => by
    have hm : ms[i]? = some m := by
      have : (ms.drop i)[0]? = some m := by rw [hms]; rfl
      simpa using this
    have hms' : ms.drop (i + 1) = ms' := by rw [← List.drop_drop, hms]; rfl
    have ih : ∀ y, DInv ms (i + 1) y → Le (((dC ty held nt all l (i + 1) ms').f c hg f0 y k).map absP) ((drawE ty held c' nt all gs (isForb f0) l (i + 1) ms' (absDX y)).bind k') := fun y hy =>
      dC_le hc hhg f0 all l (i + 1) ms' hms' y hy fun z hz => hk z (by rw [List.length_cons]; rw [show i + (l.length + 1) = i + 1 + l.length by omega]; exact hz)
    show Le (((DW.rec (motive := fun _ => DW) (fun rest => PW.rec (motive := fun _ => DW) (fun st => DW.rec (motive := fun _ => DW) (fun th => Option.rec (motive := fun _ => DW) ⟨th⟩ (fun _ => ⟨dGuard all guard th (dSkip st rest)⟩) guard) (dThen ty held op st i m rest)) (dW (AV × StK) nt dst)) (dC ty held nt all l (i + 1) ms') : DW).f c hg f0 x k).map absP)
      (((draw1 ty held c' nt all gs (isForb f0) ⟨dst, op, a, b, af, guard⟩ i m (absDX x)).bind fun x => drawE ty held c' nt all gs (isForb f0) l (i + 1) ms' x).bind k')
    rw [draw1_eq, Option.bind_assoc, Option.bind_assoc]
    have hd := dW_eq (AV × StK) nt dst
    cases e : dC ty held nt all l (i + 1) ms' with
    | mk rest =>
      rw [e] at ih
      show Le (((PW.rec (motive := fun _ => DW) (fun st => DW.rec (motive := fun _ => DW) (fun th => Option.rec (motive := fun _ => DW) ⟨th⟩ (fun _ => ⟨dGuard all guard th (dSkip st rest)⟩) guard) (dThen ty held op st i m rest)) (dW (AV × StK) nt dst) : DW).f c hg f0 x k).map absP) _
      cases e2 : dW (AV × StK) nt dst with
      | mk st =>
        rw [e2] at hd
        have hth := dThen_le (ty := ty) (held := held) (nt := nt) hc hm hhg f0 hd (k' := fun y => (drawE ty held c' nt all gs (isForb f0) l (i + 1) ms' y).bind k') ih hx op
        have hsk := dSkip_le (nt := nt) (c := c) hm f0 hd (k' := fun y => (drawE ty held c' nt all gs (isForb f0) l (i + 1) ms' y).bind k') ih hx
        show Le (((DW.rec (motive := fun _ => DW) (fun th => Option.rec (motive := fun _ => DW) ⟨th⟩ (fun _ => ⟨dGuard all guard th (dSkip st rest)⟩) guard) (dThen ty held op st i m rest) : DW).f c hg f0 x k).map absP) _
        cases e3 : dThen ty held op st i m rest with
        | mk th =>
          rw [e3] at hth
          cases guard with
          | none => exact hth
          | some g =>
            show Le ((Option.rec (motive := fun _ => R) none (fun w => Bool.rec (motive := fun _ => R) (dSkip st rest c hg f0 x k) (th c hg f0 x k) w) (wantK all x.T (some g)) : R).map absP) ((wantE all x.T.get (some g)).bind _)
            rw [wantK_eq]
            cases wantE all x.T.get (some g) with
            | none => exact Le.none _
            | some w =>
              cases w with
              | true => exact hth
              | false => exact hsk
end
end
section
open Classical
theorem anyD_at (Q : DoneK → Bool) (i : Nat) : ∀ (ds : List DoneK) (j : Nat) (ms : List Nat), anyD (fun j _ d => Nat.beq j i && Q d) j ms ds = true → ∃ d, j ≤ i ∧ ds[i - j]? = some d ∧ Q d = true
  | [], j, ms, h => by
    cases ms <;> cases h
  | d :: ds, j, [], h => by cases h
  | d :: ds, j, m :: ms, h => by
    simp only [anyD, Bool.or_eq_true, Bool.and_eq_true, Nat.beq_eq] at h
    rcases h with ⟨h1, h2⟩ | h
    · subst h1
      exact ⟨d, Nat.le_refl _, by simp, h2⟩
    · obtain ⟨d', h1, h2, h3⟩ := anyD_at Q i ds (j + 1) ms h
      refine ⟨d', by omega, ?_, h3⟩
      rw [show i - j = (i - (j + 1)) + 1 by omega]
      simpa using h2
theorem anyD_of (P : Nat → Nat → DoneK → Bool) : ∀ (ds : List DoneK) (j : Nat) (ms : List Nat), ds.length ≤ ms.length → ∀ (i : Nat) (d : DoneK), ds[i]? = some d → (∀ m, P (j + i) m d = true) → anyD P j ms ds = true
  | [], _, _, _, i, d, h, _ => by simp at h
  | e :: ds, j, [], hl, i, d, h, _ => by simp at hl
  | e :: ds, j, m :: ms, hl, i, d, h, hp => by
    simp only [anyD, Bool.or_eq_true]
    cases i with
    | zero =>
      simp only [List.getElem?_cons_zero, Option.some.injEq] at h
      subst h
      exact Or.inl (hp m)
    | succ i =>
      refine Or.inr (anyD_of P ds (j + 1) ms (by simpa using hl) i d (by simpa using h) fun m => ?_)
      rw [show j + 1 + i = j + (i + 1) by omega]
      exact hp m
theorem anyS_ex {P : Nat → Nat → DoneK → Bool} : ∀ {sp : List SE}, anyS P sp = true → ∃ e ∈ sp, P e.j e.m e.d = true
  | [], h => by cases h
  | e :: sp, h => by
    simp only [anyS, Bool.or_eq_true] at h
    rcases h with h | h
    · exact ⟨e, by simp, h⟩
    · obtain ⟨e', h1, h2⟩ := anyS_ex h
      exact ⟨e', by simp [h1], h2⟩
theorem anyS_of {P : Nat → Nat → DoneK → Bool} : ∀ {sp : List SE} {e : SE}, e ∈ sp → P e.j e.m e.d = true → anyS P sp = true
  | [], _, h, _ => by cases h
  | x :: sp, e, h, hp => by
    simp only [anyS, Bool.or_eq_true]
    rcases List.mem_cons.1 h with rfl | h
    · exact Or.inl hp
    · exact Or.inr (anyS_of h hp)

theorem DInv.nil (ms : List Nat) (T : TK) (h : Tr BK) (n : Nat) : DInv ms 0 ⟨T, h, n, [], [], [], []⟩ := ⟨rfl, fun P _ => by cases ms <;> rfl⟩

theorem nowrS_cons (j m lo hi : Nat) (wr : List Nat) (sp : List SE) : nowrS (⟨j, m, ⟨lo, hi, wr⟩⟩ :: sp) = (List.rec (nowrS sp) (fun _ _ _ => false) wr : Bool) := rfl
theorem nowrS_spec : ∀ (sp : List SE), nowrS sp = true ↔ ∀ e ∈ sp, e.d.wr = []
  | [] => ⟨fun _ e h => (by cases h), fun _ => rfl⟩
  | ⟨j, m, ⟨lo, hi, wr⟩⟩ :: sp => by
    rw [nowrS_cons]
    cases wr with
    | nil =>
      show nowrS sp = true ↔ _
      rw [nowrS_spec sp]
      refine ⟨fun h e he => ?_, fun h e he => h e (by simp [he])⟩
      rcases List.mem_cons.1 he with rfl | he
      · rfl
      · exact h e he
    | cons x l => exact ⟨fun h => (by cases h), fun h => by have := h ⟨j, m, ⟨lo, hi, x :: l⟩⟩ (by simp); cases this⟩

theorem nowr_eq {ms : List Nat} {i : Nat} {x : DX} (hx : DInv ms i x) (hi : i ≤ ms.length) : nowrS x.sp = decide (Guessed (x.ds.map absD) (guess0 ms)) := by
  rw [Bool.eq_iff_iff, decide_eq_true_iff, nowrS_spec]
  have hlen : x.ds.length ≤ ms.length := by rw [hx.len]; exact hi
  constructor
  · intro h i' d' hd k hk
    exfalso
    simp only [List.getElem?_map, Option.map_eq_some_iff] at hd
    obtain ⟨d, hd, rfl⟩ := hd
    have h1 := hx.any (fun j _ d => memN d.wr k) (fun _ _ _ => rfl)
    have h2 := anyD_of (fun j _ d => memN d.wr k) x.ds 0 ms hlen i' d hd (fun _ => hk)
    rw [h1] at h2
    obtain ⟨e, h3, h4⟩ := anyS_ex h2
    rw [h e h3] at h4
    cases h4
  · intro h e he
    cases hw : e.d.wr with
    | nil => rfl
    | cons y l =>
      exfalso
      have h1 := hx.any (fun j _ d => Nat.beq j e.j && memN d.wr y) (fun j _ n => by rw [show memN [] y = false from rfl, Bool.and_false])
      have h2 : anyS (fun j _ d => Nat.beq j e.j && memN d.wr y) x.sp = true := anyS_of he (by
        rw [hw, memN_cons]
        simp)
      rw [← h1] at h2
      obtain ⟨d, h3, h4, h5⟩ := anyD_at (fun d => memN d.wr y) e.j x.ds 0 ms h2
      obtain ⟨g, h6, h7⟩ := h (e.j) (absD d) (by simp only [List.getElem?_map]; rw [show x.ds[e.j]? = some d from by simpa using h4]; rfl) y h5
      unfold guess0 at h6
      simp only [List.getElem?_map, Option.map_eq_some_iff] at h6
      obtain ⟨_, _, rfl⟩ := h6
      cases h7

theorem wrAt_mem (j k : Nat) : ∀ (sp : List SE), memN (wrAt j sp) k = true → ∃ e ∈ sp, e.j = j ∧ memN e.d.wr k = true
  | [], h => by cases h
  | ⟨j', m, d⟩ :: sp, h => by
    rw [show wrAt j (⟨j', m, d⟩ :: sp) = (Bool.rec (wrAt j sp) d.wr (Nat.beq j j') : List Nat) from rfl] at h
    cases hb : Nat.beq j j' with
    | true =>
      rw [hb] at h
      exact ⟨⟨j', m, d⟩, by simp, (Nat.eq_of_beq_eq_true hb).symm, h⟩
    | false =>
      rw [hb] at h
      obtain ⟨e, h1, h2⟩ := wrAt_mem j k sp h
      exact ⟨e, by simp [h1], h2⟩
theorem guessedS_spec (sp : List SE) : ∀ (sq : List SE), guessedS sq sp = true → ∀ e ∈ sq, ∀ k, memN e.d.wr k = true → memN (wrAt e.j sp) k = true
  | [], _, e, he, _, _ => by cases he
  | ⟨j, m, ⟨lo, hi, wr⟩⟩ :: sq, h, e, he, k, hk => by
    rw [show guessedS (⟨j, m, ⟨lo, hi, wr⟩⟩ :: sq) sp = (List.rec (guessedS sq sp) (fun _ _ _ => Bool.rec false (guessedS sq sp) (subK wr (wrAt j sp))) wr : Bool) from rfl] at h
    cases wr with
    | nil =>
      rcases List.mem_cons.1 he with rfl | he
      · cases hk
      · exact guessedS_spec sp sq h e he k hk
    | cons x l =>
      have h : (Bool.rec false (guessedS sq sp) (subK (x :: l) (wrAt j sp)) : Bool) = true := h
      cases hs : subK (x :: l) (wrAt j sp) with
      | false => rw [hs] at h; cases h
      | true =>
        rw [hs] at h
        rcases List.mem_cons.1 he with rfl | he
        · exact (subK_spec _ _).1 hs k hk
        · exact guessedS_spec sp sq h e he k hk
theorem guess1_at : ∀ (ms : List Nat) (ds : List DoneK) (i : Nat) (d : DoneK), ds.length ≤ ms.length → ds[i]? = some d → ∃ m, (guess1 ms (ds.map absD))[i]? = some (m, (absD d).wr)
  | [], [], i, d, _, h => by simp at h
  | [], _ :: _, _, _, hl, _ => by simp at hl
  | m :: ms, [], i, d, _, h => by simp at h
  | m :: ms, e :: ds, i, d, hl, h => by
    cases i with
    | zero => simp at h; subst h; exact ⟨m, rfl⟩
    | succ i =>
      obtain ⟨m', h'⟩ := guess1_at ms ds i d (by simpa using hl) (by simpa using h)
      exact ⟨m', by simpa [guess1] using h'⟩
theorem guessed_ok {ms : List Nat} {i j : Nat} {x y : DX} (hx : DInv ms i x) (hy : DInv ms j y) (hi : i ≤ ms.length) (hj : j ≤ ms.length) (h : guessedS y.sp x.sp = true) : Guessed (y.ds.map absD) (guess1 ms (x.ds.map absD)) := by
  intro p d' hd k hk
  simp only [List.getElem?_map, Option.map_eq_some_iff] at hd
  obtain ⟨d, hd, rfl⟩ := hd
  have h1 := hy.any (fun j _ d => Nat.beq j p && memN d.wr k) (fun j _ n => by rw [show memN [] k = false from rfl, Bool.and_false])
  have h2 := anyD_of (fun j _ d => Nat.beq j p && memN d.wr k) y.ds 0 ms (by rw [hy.len]; exact hj) p d hd (fun _ => by rw [Nat.zero_add, show memN d.wr k = true from hk]; simp)
  rw [h1] at h2
  obtain ⟨e, h3, h4⟩ := anyS_ex h2
  simp only [Bool.and_eq_true, Nat.beq_eq] at h4
  obtain ⟨e', h5, h6, h7⟩ := wrAt_mem e.j k x.sp (guessedS_spec x.sp y.sp h e h3 k h4.2)
  have h8 := hx.any (fun j _ d => Nat.beq j p && memN d.wr k) (fun j _ n => by rw [show memN [] k = false from rfl, Bool.and_false])
  have h9 : anyS (fun j _ d => Nat.beq j p && memN d.wr k) x.sp = true := anyS_of h5 (by rw [h6, h4.1, h7]; simp)
  rw [← h8] at h9
  obtain ⟨d2, h10, h11, h12⟩ := anyD_at (fun d => memN d.wr k) p x.ds 0 ms h9
  obtain ⟨m, h13⟩ := guess1_at ms x.ds p d2 (by rw [hx.len]; exact hi) (by simpa using h11)
  exact ⟨_, h13, h12⟩

theorem mem_logsS (mk k : Nat) (r : List Nat) : ∀ (sp : List SE), memN (logsS mk sp r) k = ((Nat.blt k mk && anyS (fun _ _ d => memN d.wr k) sp) || memN r k)
  | [] => by rw [show logsS mk [] r = r from rfl]; simp [anyS]
  | ⟨j, m, d⟩ :: sp => by
    rw [show logsS mk (⟨j, m, d⟩ :: sp) r = belowK mk d.wr (logsS mk sp r) from rfl, mem_below, mem_logsS mk k r sp]
    simp only [anyS]
    cases Nat.blt k mk <;> cases memN d.wr k <;> simp
theorem anyD_wr (k : Nat) : ∀ (ds : List DoneK) (j : Nat) (ms : List Nat), ds.length ≤ ms.length → anyD (fun _ _ d => memN d.wr k) j ms ds = (ds.map absD).any fun d => d.wr k
  | [], j, ms, _ => by cases ms <;> rfl
  | d :: ds, j, [], h => by simp at h
  | d :: ds, j, m :: ms, h => by
    simp only [anyD, List.map_cons, List.any_cons, anyD_wr k ds (j + 1) ms (by simpa using h)]
    rfl

/-! a drawn region -/
noncomputable def rFin (forb : List (Nat × Nat)) (mark : Nat) (log : List Nat) (x : DX) (k : TK → StK → R) : R := DX.rec (motive := fun _ => R) (fun T h n sp _ _ _ => k T ⟨h, n, forb, mark, logsS mark sp log⟩) x
noncomputable def looseD (ty : Nat → Option TI) (ms : List Nat) (x : DX) : Bool := DX.rec (motive := fun _ => Bool) (fun T h n sp ds hs lds => List.rec (motive := fun _ => Bool) true (fun _ _ _ => ldsOkK ty ms ds (snocK hs h) lds) lds) x
noncomputable def rSecond (ty : Nat → Option TI) (ms : List Nat) (D : DF) (x : DX) (call : CallK) (T : TK) (h : Tr BK) (n : Nat) (forb : List (Nat × Nat)) (mark : Nat) (log : List Nat) (k : TK → StK → R) : R :=
  D call (fun i f => hideGS i x.sp f) forb ⟨T, h, n, [], [], [], []⟩ fun y => Bool.rec (motive := fun _ => R) none (rFin forb mark log y k) (Bool.rec (motive := fun _ => Bool) false (looseD ty ms y) (guessedS y.sp x.sp))
noncomputable def rDraw (ty : Nat → Option TI) (ms : List Nat) (D : DF) : RF := fun call T s k =>
  StK.rec (motive := fun _ => R) (fun h n forb mark log => D call (fun _ f => f) forb ⟨T, h, n, [], [], [], []⟩ fun x =>
    Bool.rec (motive := fun _ => R) (rSecond ty ms D x call T h n forb mark log k) (rFin forb mark log x k) (Bool.rec (motive := fun _ => Bool) false (looseD ty ms x) (nowrS x.sp))) s

theorem looseD_eq {ty : Nat → Option TI} (ops : Array Oper) (x : DX) : looseD ty (masks ops.toList []) x = looseOk ty ops (absDX x) := by
  obtain ⟨T, h, n, sp, ds, hs, lds⟩ := x
  exact looseOkK_eq ops ⟨ds, T, h, n, hs, lds⟩

def KOk (k : TK → StK → R) (k' : TM → St → Option (AV × St)) : Prop := ∀ T s, Le ((k T s).map absP) (k' T.get (absS s))

section
variable {ty : Nat → Option TI} {held : Nat → Bool} {c : CallK} {c' : CallF} {nt : Nat}

theorem masks_len (l : List Oper) : ∀ (acc : List Nat), (masks l acc).length = acc.length + l.length := by
  induction l with
  | nil => intro acc; simp [masks]
  | cons o l ih => intro acc; simp only [masks, ih, List.length_append, List.length_cons, List.length_nil]; omega

theorem rFin_le {ms : List Nat} {i : Nat} {x : DX} (hx : DInv ms i x) (hi : i ≤ ms.length) {h : Tr BK} {n : Nat} {forb : List (Nat × Nat)} {mark : Nat} {log : List Nat} {k : TK → StK → R} {k' : TM → St → Option (AV × St)} (hk : KOk k k') :
    Le ((rFin forb mark log x k).map absP) ((finD (absS ⟨h, n, forb, mark, log⟩) (absDX x)).bind fun p => k' p.1 p.2) := by
  obtain ⟨T, h1, n1, sp, ds, hs, lds⟩ := x
  have h2 := hk T ⟨h1, n1, forb, mark, logsS mark sp log⟩
  have e : absS ⟨h1, n1, forb, mark, logsS mark sp log⟩ = (⟨h1.get, n1, isForb forb, mark, fun k => memN log k || (Nat.blt k mark && (ds.map absD).any fun d => d.wr k)⟩ : St) := by
    unfold absS
    congr 1
    funext k
    rw [mem_logsS]
    have h3 := hx.any (fun _ _ d => memN d.wr k) (fun _ _ _ => rfl)
    simp only at h3
    rw [← h3, anyD_wr k ds 0 ms (by have := hx.len; simp only at this; omega)]
    exact Bool.or_comm _ _
  rw [e] at h2
  exact h2

theorem rDraw_le (hc : CallLe c c') {ops : Array Oper} (hok : regOk ops = true) {k : TK → StK → R} {k' : TM → St → Option (AV × St)} (hk : KOk k k') (T : TK) (s : StK) :
    Le ((rDraw ty (masks ops.toList []) (dC ty held nt ops.toList ops.toList 0 (masks ops.toList [])).f c T s k).map absP) ((regE ty held c' nt ops T.get (absS s)).bind fun p => k' p.1 p.2) := by
  obtain ⟨h, n, forb, mark, log⟩ := s
  have hml : (masks ops.toList []).length = ops.toList.length := by rw [masks_len]; simp
  unfold regE
  rw [hok]
  show Le (((dC ty held nt ops.toList ops.toList 0 (masks ops.toList [])).f c (fun _ f => f) forb ⟨T, h, n, [], [], [], []⟩ fun x =>
    Bool.rec (motive := fun _ => R) (rSecond ty (masks ops.toList []) (dC ty held nt ops.toList ops.toList 0 (masks ops.toList [])).f x c T h n forb mark log k) (rFin forb mark log x k) (Bool.rec (motive := fun _ => Bool) false (looseD ty (masks ops.toList []) x) (nowrS x.sp))).map absP)
    (((drawG ty held c' nt (guess0 (masks ops.toList [])) ops T.get (absS ⟨h, n, forb, mark, log⟩)).bind _).bind _)
  rw [Option.bind_assoc]
  refine dC_le hc (ms := masks ops.toList []) (gs := guess0 (masks ops.toList [])) (fun i f k => by rw [hideG_guess0, Bool.or_false]) forb ops.toList ops.toList 0 _ rfl _ (DInv.nil _ _ _ _) fun x hx => ?_
  have hi : 0 + ops.toList.length ≤ (masks ops.toList []).length := by rw [hml]; omega
  have hand : ∀ (a b : Bool), (Bool.rec (motive := fun _ => Bool) false b a : Bool) = (a && b) := fun a b => by cases a <;> rfl
  rw [hand, nowr_eq hx hi, looseD_eq]
  show Le _ (Option.bind (match decide (Guessed (x.ds.map absD) (guess0 (masks ops.toList []))) && looseOk ty ops (absDX x) with
    | true => finD (absS ⟨h, n, forb, mark, log⟩) (absDX x)
    | false => (drawG ty held c' nt (guess1 (masks ops.toList []) (x.ds.map absD)) ops T.get (absS ⟨h, n, forb, mark, log⟩)).bind fun y => chk (decide (Guessed y.ds (guess1 (masks ops.toList []) (x.ds.map absD))) && looseOk ty ops y) (finD (absS ⟨h, n, forb, mark, log⟩) y)) _)
  cases (decide (Guessed (x.ds.map absD) (guess0 (masks ops.toList []))) && looseOk ty ops (absDX x)) with
  | true => exact rFin_le hx hi hk
  | false =>
    show Le ((rSecond ty (masks ops.toList []) (dC ty held nt ops.toList ops.toList 0 (masks ops.toList [])).f x c T h n forb mark log k).map absP) (((drawG ty held c' nt (guess1 (masks ops.toList []) (x.ds.map absD)) ops T.get (absS ⟨h, n, forb, mark, log⟩)).bind _).bind _)
    rw [Option.bind_assoc]
    have hxl : x.ds.length ≤ (masks ops.toList []).length := by rw [hx.len]; exact hi
    refine dC_le hc (ms := masks ops.toList []) (gs := guess1 (masks ops.toList []) (x.ds.map absD)) (fun i f k => ?_) forb ops.toList ops.toList 0 _ rfl _ (DInv.nil _ _ _ _) fun y hy => ?_
    · rw [isForb_hideGS, ← anyD_hideG i k x.ds 0 _ hxl]
      have h3 := hx.any (fun j m d => Nat.blt i j && !Nat.testBit m i && memN d.wr k) (fun j m n => by rw [show memN [] k = false from rfl, Bool.and_false])
      rw [h3]
    · rw [hand, looseD_eq]
      cases hg : guessedS y.sp x.sp with
      | false => exact Le.none _
      | true =>
        rw [Bool.true_and]
        have hG := guessed_ok hx hy hi hi hg
        cases hl : looseOk ty ops (absDX y) with
        | false => exact Le.none _
        | true =>
          show Le ((rFin forb mark log y k).map absP) ((chk (decide (Guessed (y.ds.map absD) (guess1 (masks ops.toList []) (x.ds.map absD))) && true) (finD (absS ⟨h, n, forb, mark, log⟩) (absDX y))).bind fun p => k' p.1 p.2)
          rw [decide_eq_true hG]
          exact rFin_le hy hi hk

theorem opsK_le (hc : CallLe c c') (all : List Oper) : ∀ (l : List Oper) (T : TK) (s : StK), Le ((opsK ty held c nt all l T s).map absT) (opsE ty held c' nt all l T.get (absS s))
  | [], T, s => Le.refl _
  | o :: l, T, s => by
    rw [show opsK ty held c nt all (o :: l) T s = ob (wantK all T o.guard) fun w => Bool.rec (putTK nt T o.dst (.tup []) fun T => opsK ty held c nt all l T s)
      (os2 (opK ty held c o.op T s) fun v s => putTK nt T o.dst v fun T => opsK ty held c nt all l T s) w from rfl]
    simp only [ob_eq, wantK_eq, opsE]
    have put : ∀ (v : AV) (s : StK), Le ((putTK nt T o.dst v fun T => opsK ty held c nt all l T s).map absT) ((putE nt T.get o.dst v).bind fun T => opsE ty held c' nt all l T (absS s)) := by
      intro v s
      cases hd : o.dst with
      | none => exact opsK_le hc all l T s
      | some d =>
        show Le ((ib (Nat.blt d nt) (T.set d (some v) _) none).map absT) ((chk (Nat.blt d nt) (some (upd T.get d (some v)))).bind _)
        rw [ib_eq, set_eq]
        cases Nat.blt d nt
        · exact Le.none _
        · have := opsK_le hc all l (Tr.put (some v) (pth d) T) s
          rw [put_get'] at this
          exact this
    cases wantE all T.get o.guard with
    | none => exact Le.none _
    | some w =>
      cases w with
      | false => exact put _ _
      | true =>
        show Le ((os2 (opK ty held c o.op T s) fun v s => putTK nt T o.dst v fun T => opsK ty held c nt all l T s).map absT) ((opE ty held c' o.op T.get (absS s)).bind fun p => (putE nt T.get o.dst p.1).bind fun T => opsE ty held c' nt all l T p.2)
        have h := opK_le (ty := ty) (held := held) hc o.op T s
        cases e : opK ty held c o.op T s with
        | none => exact Le.none _
        | some p =>
          rw [e] at h
          rw [h _ rfl]
          exact put p.1 p.2

theorem rPlain_le (hc : CallLe c c') (ops : List Oper) {k : TK → StK → R} {k' : TM → St → Option (AV × St)} (hk : KOk k k') (T : TK) (s : StK) :
    Le (((rC ty held nt ops ops).f c T s k).map absP) ((opsE ty held c' nt ops ops T.get (absS s)).bind fun p => k' p.1 p.2) := by
  rw [rC_eq]
  have h := opsK_le (ty := ty) (held := held) (nt := nt) hc ops ops T s
  cases e : opsK ty held c nt ops ops T s with
  | none => exact Le.none _
  | some p =>
    rw [e] at h
    rw [h _ rfl]
    exact hk p.1 p.2
end

/-! code -/
abbrev KF := Ex → TK → StK → R
abbrev CFn := Nat → CallK → TK → StK → KF → R
structure CW where
  f : CFn
noncomputable def kSkip : CFn := fun f _ T s k => Nat.rec (motive := fun _ => R) none (fun _ _ => k .normal T s) f
noncomputable def kReg (r : RF) : CFn := fun f call T s k => Nat.rec (motive := fun _ => R) none (fun _ _ => r call T s (k .normal)) f
noncomputable def kThen (b : R) (k : KF) (T : TK) (s : StK) : Ex → R := Ex.rec (motive := fun _ => R) b (fun id => k (.exit id) T s) (k .ret T s)
noncomputable def kSeq (a b : CFn) : CFn := fun f call T s k => Nat.rec (motive := fun _ => R) none (fun f _ => a f call T s fun e T s => kThen (b f call T s k) k T s e) f
noncomputable def kCond (g : TK → Option AV) (a b : CW) : CFn := fun f call T s k => Nat.rec (motive := fun _ => R) none (fun f _ => boolR (g T) (a.f f call T s k) (b.f f call T s k)) f
noncomputable def kBlock (id : Nat) (b : CFn) : CFn := fun f call T s k => Nat.rec (motive := fun _ => R) none (fun f _ => b f call T s fun e T s => k (leaveB id e) T s) f
noncomputable def kLoop (b : CFn) : CFn := fun f call T s k => Nat.rec (motive := fun _ => TK → StK → R) (fun _ _ => none) (fun f ih T s => b f call T s fun e T s => kThen (ih T s) k T s e) f T s
noncomputable def kScope (b : CFn) : CFn := fun f call T s k => Nat.rec (motive := fun _ => R) none (fun f _ => b f call T s k) f
noncomputable def kExit (id : Nat) : CFn := fun f _ T s k => Nat.rec (motive := fun _ => R) none (fun _ _ => k (.exit id) T s) f
noncomputable def kRet : CFn := fun f _ T s k => Nat.rec (motive := fun _ => R) none (fun _ _ => k .ret T s) f
noncomputable def kNone : CFn := fun _ _ _ _ _ => none
def CKOk (k : KF) (k' : CS → Option (AV × St)) : Prop := ∀ e T s, Le ((k e T s).map absP) (k' ⟨e, T.get, absS s⟩)
/-! a loop over a map whose rounds stand apart -/
noncomputable def setM (α : Type) (l : List (Nat × Option α)) : Tr α → (Tr α → R) → R := List.rec (motive := fun _ => Tr α → (Tr α → R) → R) (fun t k => k t) (fun p _ ih t k => (sT α R p.1).f p.2 t fun t => ih t k) l
noncomputable def putM {α : Type} : List (Nat × Option α) → Tr α → Tr α
  | [], t => t
  | p :: l, t => putM l (Tr.put p.2 (pth p.1) t)
def updM {α : Type} : List (Nat × Option α) → (Nat → Option α) → Nat → Option α
  | [], f => f
  | p :: l, f => updM l (upd f p.1 p.2)
theorem setM_eq {α : Type} : ∀ (l : List (Nat × Option α)) (t : Tr α) (k : Tr α → R), setM α l t k = k (putM l t)
  | [], t, k => rfl
  | p :: l, t, k => by
    show (sT α R p.1).f p.2 t (fun t => setM α l t k) = _
    rw [set_eqR, setM_eq l _ k]; rfl
theorem putM_get {α : Type} : ∀ (l : List (Nat × Option α)) (t : Tr α), (putM l t).get = updM l t.get
  | [], t => rfl
  | p :: l, t => by
    show (putM l _).get = updM l _
    rw [putM_get l, put_get']
theorem updM_map {α : Type} (F : Nat → Option α) : ∀ (l : List Nat) (f : Nat → Option α), updM (l.map fun d => (d, F d)) f = fun k => match memL k l with | true => F k | false => f k
  | [], f => rfl
  | d :: l, f => by
    show updM (l.map fun d => (d, F d)) (upd f d (F d)) = _
    rw [updM_map F l]
    funext k
    show (match memL k l with | true => F k | false => upd f d (F d) k) = match Nat.beq d k || memL k l with | true => F k | false => f k
    cases memL k l with
    | true => simp
    | false =>
      by_cases e : k = d
      · subst e; simp [upd]
      · have : Nat.beq d k = false := by
          cases hb : Nat.beq d k
          · rfl
          · exact absurd (Nat.eq_of_beq_eq_true hb).symm e
        simp [upd, e, this]
noncomputable def forceL (l : List Nat) : (List Nat → R) → R := List.rec (motive := fun _ => (List Nat → R) → R) (fun k => k []) (fun x _ ih k => ih fun l => k (x :: l)) l
theorem forceL_eq : ∀ (l : List Nat) (k : List Nat → R), forceL l k = k l
  | [], k => rfl
  | x :: l, k => by show forceL l (fun l => k (x :: l)) = _; rw [forceL_eq l]
def sameRows : List Row → List Row → Bool
  | [], [] => true
  | r :: l, r' :: l' => Nat.beq r.1 r'.1 && (sameT r.2.1 r'.2.1 && (sameT r.2.2 r'.2.2 && sameRows l l'))
  | _, _ => false
def sameX : Option XK → Option XK → Bool
  | none, none => true
  | some (.map a c), some (.map b d) => Nat.beq c d && sameRows a b
  | _, _ => false
def sameBK (a b : BK) : Bool := sameL a.cells b.cells && (Nat.beq a.elem b.elem && (Nat.beq a.os b.os && sameX a.x b.x))
def sameOB : Option BK → Option BK → Bool
  | none, none => true
  | some a, some b => sameBK a b
  | _, _ => false
theorem sameRows_eq : ∀ {a b : List Row}, sameRows a b = true → a = b
  | [], [], _ => rfl
  | [], _ :: _, h => by cases h
  | _ :: _, [], h => by cases h
  | (n, k, v) :: l, (n', k', v') :: l', h => by
    simp only [sameRows, Bool.and_eq_true] at h
    obtain ⟨h1, h2, h3, h4⟩ := h
    rw [Nat.eq_of_beq_eq_true h1, sameT_eq h2, sameT_eq h3, sameRows_eq h4]
theorem sameX_eq {a b : Option XK} (h : sameX a b = true) : a = b := by
  unfold sameX at h
  split at h
  · rfl
  · rw [Bool.and_eq_true] at h
    rw [Nat.eq_of_beq_eq_true h.1, sameRows_eq h.2]
  · cases h
theorem sameOB_eq {a b : Option BK} (h : sameOB a b = true) : a = b := by
  unfold sameOB at h
  split at h
  · rfl
  · rename_i a b
    obtain ⟨c, e, o, x⟩ := a
    obtain ⟨c', e', o', x'⟩ := b
    simp only [sameBK, Bool.and_eq_true] at h
    obtain ⟨h1, h2, h3, h4⟩ := h
    rw [sameL_eq h1, Nat.eq_of_beq_eq_true h2, Nat.eq_of_beq_eq_true h3, sameX_eq h4]
  · cases h
noncomputable def logOk (own : List Nat) (h' h : Tr BK) (log : List Nat) : Bool := List.rec (motive := fun _ => Bool) true (fun k _ ih => Bool.rec (motive := fun _ => Bool) (Bool.rec (motive := fun _ => Bool) false ih (sameOB (h'.get k) (h.get k))) ih (memL k own)) log
theorem logOk_spec {own : List Nat} {h' h : Tr BK} : ∀ {log : List Nat}, logOk own h' h log = true → ∀ k, memN log k = true → memL k own = false → h'.get k = h.get k
  | [], _, k, hk, _ => by cases hk
  | x :: log, hl, k, hk, ho => by
    have hl : (Bool.rec (motive := fun _ => Bool) (Bool.rec (motive := fun _ => Bool) false (logOk own h' h log) (sameOB (h'.get x) (h.get x))) (logOk own h' h log) (memL x own) : Bool) = true := hl
    rw [memN_cons, Bool.or_eq_true] at hk
    have hrest : logOk own h' h log = true := by
      cases e : memL x own with
      | true => rw [e] at hl; exact hl
      | false =>
        rw [e] at hl
        cases e' : sameOB (h'.get x) (h.get x) with
        | true => rw [e'] at hl; exact hl
        | false => rw [e'] at hl; cases hl
    rcases hk with hk | hk
    · have := Nat.eq_of_beq_eq_true hk
      subst this
      rw [ho] at hl
      cases e' : sameOB (h'.get x) (h.get x) with
      | true => exact sameOB_eq e'
      | false => rw [e'] at hl; cases hl
    · exact logOk_spec hrest k hk ho
abbrev OpsF := TK → StK → KF → R
noncomputable def rowM (ops : OpsF) (m : ML) (Td : TK) (hb : Tr BK) (s : StK) (r : Row) (kont : List (Nat × BK) → R) : R :=
  setM AV [(m.t, some (.tup [pkB true, r.2.1, r.2.2])), (m.t', some (.v (pkB true))), (m.u, some (.tup [r.2.1, r.2.2]))] Td fun T =>
    setM BK ((ownR r).map fun b => (b, s.h.get b)) hb fun h => StK.rec (motive := fun _ => R) (fun _ n forb _ _ => ops T ⟨h, n, forb, n, []⟩ fun e _ s' =>
      Bool.rec (motive := fun _ => R) none (StK.rec (motive := fun _ => R) (fun h' _ _ _ log => Bool.rec (motive := fun _ => R) none (Option.rec (motive := fun _ => R) none kont (resR (absS s') (ownR r))) (logOk (ownR r) h' h log)) s') (isOk m.bid e)) s
noncomputable def rowsM (ops : OpsF) (m : ML) (Td : TK) (hb : Tr BK) (s : StK) (rows : List Row) : List (Nat × BK) → (List (Nat × BK) → R) → R :=
  List.rec (motive := fun _ => List (Nat × BK) → (List (Nat × BK) → R) → R) (fun acc k => k acc) (fun r _ ih acc k => rowM ops m Td hb s r fun x => ih (acc ++ x) k) rows
noncomputable def gensK (s0 : StK) (G : List Nat) : StK → Option StK := List.rec (motive := fun _ => StK → Option StK) (fun s => some s) (fun b _ ih s => ob (cgetK s0 b) fun B => ob (putK s b (some (genB B))) ih) G
noncomputable def putsK (l : List (Nat × BK)) : StK → Option StK := List.rec (motive := fun _ => StK → Option StK) (fun s => some s) (fun p _ ih s => ob (putK s p.1 (some p.2)) ih) l
noncomputable def finMK (s : StK) (it : Nat) (G : List Nat) (res : List (Nat × BK)) : Option StK := ob (putK s it none) fun s1 => ob (gensK s G s1) fun s2 => putsK res s2
noncomputable def map1K (nt : Nat) (m : ML) (ops : OpsF) (g : MG) (T : TK) (s : StK) (k : KF) : R :=
  forceL (gen1 T.get (absS s) g.mb nt) fun G => forceL (ownsOf g.rows) fun owns => Bool.rec (motive := fun _ => R) none (Bool.rec (motive := fun _ => R) none
    (setM AV (m.dsts.map fun d => (d, none)) T fun Td => setM BK (G.map fun b => (b, (s.h.get b).map genB)) s.h fun h0 => setM BK ((g.it :: owns).map fun b => (b, none)) h0 fun hb =>
      rowsM ops m Td hb s g.rows [] fun res => Option.rec (motive := fun _ => R) none (fun s3 => setM AV [(m.t, some (.tup [pkB false])), (m.t', some (.v (pkB false)))] Td fun Te => k (.exit m.e0) Te s3) (finMK s g.it G res))
    (isPlain (absS s) (G ++ owns))) (nodupB (g.it :: g.mb :: (G ++ owns)))

noncomputable def rowM2 (ops : OpsF) (m : ML) (mb clock : Nat) (Td : TK) (hb : Tr BK) (s : StK) (rows : List Row) (r : Row) (kont : List (Nat × BK) → TV → R) : R :=
  setM AV [(m.t, some (.tup [pkB true, r.2.1, r.2.2])), (m.t', some (.v (pkB true))), (m.u, some (.tup [r.2.1, r.2.2]))] Td fun T =>
    setM BK ((ownR r).map fun b => (b, s.h.get b)) hb fun h => StK.rec (motive := fun _ => R) (fun _ n forb _ _ => ops T ⟨h, n, forb, n, []⟩ fun e _ s' =>
      Bool.rec (motive := fun _ => R) none (StK.rec (motive := fun _ => R) (fun h' _ _ _ log => Option.rec (motive := fun _ => R) none (fun v => Bool.rec (motive := fun _ => R) none (Bool.rec (motive := fun _ => R) none (Bool.rec (motive := fun _ => R) none
        (Option.rec (motive := fun _ => R) none (fun x => kont x v) (resR (absS s') (ownR r))) (logOk (mb :: ownR r) h' h log)) (sameOB (h'.get mb) (some (mapB (setB r.1 v rows) clock)))) (ownV v r.2.2)) (valO r.1 (h'.get mb))) s') (isOk m.bid e)) s
noncomputable def rowsM2 (ops : OpsF) (m : ML) (mb clock : Nat) (Td : TK) (hb : Tr BK) (s : StK) (rows l : List Row) : List (Nat × BK) → List (Nat × TV) → (List (Nat × BK) → List (Nat × TV) → R) → R :=
  List.rec (motive := fun _ => List (Nat × BK) → List (Nat × TV) → (List (Nat × BK) → List (Nat × TV) → R) → R) (fun acc news k => k acc news)
    (fun r _ ih acc news k => rowM2 ops m mb clock Td hb s rows r fun x v => ih (acc ++ x) (news ++ Bool.rec (motive := fun _ => List (Nat × TV)) [(r.1, v)] [] (sameT v r.2.2)) k) l
def lookO (n : Nat) : List (Nat × BK) → Option BK
  | [] => none
  | p :: l => match Nat.beq p.1 n with
    | true => some p.2
    | false => lookO n l
def subO (R : List (Nat × BK)) : List (Nat × BK) → Bool
  | [] => true
  | p :: l => sameOB (lookO p.1 R) (some p.2) && subO R l
theorem lookO_mem {n : Nat} {B : BK} : ∀ {l : List (Nat × BK)}, lookO n l = some B → (n, B) ∈ l
  | [], h => by cases h
  | p :: l, h => by
    unfold lookO at h
    cases e : Nat.beq p.1 n with
    | true =>
      rw [e] at h
      cases h
      rw [← Nat.eq_of_beq_eq_true e]
      exact List.mem_cons_self
    | false => rw [e] at h; exact List.mem_cons_of_mem _ (lookO_mem h)
theorem subO_mem {R : List (Nat × BK)} : ∀ {l : List (Nat × BK)}, subO R l = true → ∀ x ∈ l, x ∈ R
  | [], _, x, h => by cases h
  | p :: l, hs, x, h => by
    simp only [subO, Bool.and_eq_true] at hs
    rcases List.mem_cons.1 h with rfl | h
    · exact lookO_mem (sameOB_eq hs.1)
    · exact subO_mem hs.2 x h
noncomputable def fin2K (m : ML) (g : MG) (G : List Nat) (Td : TK) (s : StK) (res : List (Nat × BK)) (rows : List Row) (k : KF) : R :=
  Option.rec (motive := fun _ => R) none (fun s4 => setM AV [(m.t, some (.tup [pkB false])), (m.t', some (.v (pkB false)))] Td fun Te => k (.exit m.e0) Te s4) (ob (finMK s g.it G res) fun s3 => putK s3 g.mb (some (mapB rows g.clock)))
noncomputable def map2K (nt : Nat) (m : ML) (ops : OpsF) (g : MG) (T : TK) (s : StK) (k : KF) : R :=
  forceL (gen1 T.get (absS s) g.mb nt) fun G => forceL (ownsOf g.rows) fun owns => Bool.rec (motive := fun _ => R) none (Bool.rec (motive := fun _ => R) none (Bool.rec (motive := fun _ => R) none
    (setM AV (m.dsts.map fun d => (d, none)) T fun Td => setM BK (G.map fun b => (b, (s.h.get b).map genB)) s.h fun h0 => setM BK ((g.it :: owns).map fun b => (b, none)) h0 fun hb =>
      rowsM2 ops m g.mb g.clock Td hb s g.rows g.rows [] [] fun res N => List.rec (motive := fun _ => R) (fin2K m g G Td s res g.rows k)
        (fun q l _ => List.rec (motive := fun _ => R) (setM BK [(g.mb, some (mapB (setB q.1 q.2 g.rows) g.clock))] hb fun hb2 =>
          rowsM2 ops m g.mb g.clock Td hb2 s (setB q.1 q.2 g.rows) (dropB q.1 g.rows) [] [] fun res2 N2 => Bool.rec (motive := fun _ => R) none (Bool.rec (motive := fun _ => R) none (fin2K m g G Td s res (setB q.1 q.2 g.rows) k) (subO res res2)) (nullB N2)) (fun _ _ _ => none) l) N)
    (sameOB (s.h.get g.mb) (some (mapB g.rows g.clock)))) (isPlain (absS s) (G ++ owns))) (nodupB (g.it :: g.mb :: (G ++ owns)))
noncomputable def mapK (nt : Nat) (m : ML) (ops : OpsF) (g : MG) (T : TK) (s : StK) (k : KF) : R := Bool.rec (motive := fun _ => R) (map1K nt m ops g T s k) (map2K nt m ops g T s k) (hasUpd m)

theorem gensK_eq (s0 : StK) : ∀ (G : List Nat) (s : StK), (gensK s0 G s).map absS = gensE (absS s0) G (absS s)
  | [], s => rfl
  | b :: G, s => by
    show (ob (cgetK s0 b) fun B => ob (putK s b (some (genB B))) (gensK s0 G)).map absS = _
    rw [ob_eq, cgetK_eq]
    simp only [gensE]
    cases (absS s0).cget b with
    | none => rfl
    | some B =>
      show (ob (putK s b (some (genB B))) (gensK s0 G)).map absS = ((absS s).put b (some (genB B))).bind fun s => gensE (absS s0) G s
      rw [ob_eq, ← putK_eq]
      cases putK s b (some (genB B)) with
      | none => rfl
      | some s1 => exact gensK_eq s0 G s1
theorem putsK_eq : ∀ (l : List (Nat × BK)) (s : StK), (putsK l s).map absS = putsE l (absS s)
  | [], s => rfl
  | p :: l, s => by
    show (ob (putK s p.1 (some p.2)) (putsK l)).map absS = ((absS s).put p.1 (some p.2)).bind fun s => putsE l s
    rw [ob_eq, ← putK_eq]
    cases putK s p.1 (some p.2) with
    | none => rfl
    | some s1 => exact putsK_eq l s1
theorem finMK_eq (s : StK) (it : Nat) (G : List Nat) (res : List (Nat × BK)) : (finMK s it G res).map absS = ((absS s).put it none).bind fun s1 => (gensE (absS s) G s1).bind fun s2 => putsE res s2 := by
  unfold finMK
  rw [ob_eq, ← putK_eq]
  cases putK s it none with
  | none => rfl
  | some s1 =>
    show (ob (gensK s G s1) fun s2 => putsK res s2).map absS = (gensE (absS s) G (absS s1)).bind fun s2 => putsE res s2
    rw [ob_eq, ← gensK_eq]
    cases gensK s G s1 with
    | none => rfl
    | some s2 => exact putsK_eq res s2

section
variable {m : ML} {g : MG} {G owns : List Nat} {nt : Nat} {ops : OpsF} {ops' : RunF} {T Td : TK} {hb : Tr BK} {s : StK}
def OpsLe (ops : OpsF) (ops' : RunF) : Prop := ∀ T s (k : KF) (k' : CS → Option (AV × St)), CKOk k k' → Le ((ops T s k).map absP) ((ops' T.get (absS s)).bind k')
theorem rowM_le (ho : OpsLe ops ops') (hTd : Td.get = fun t => match memL t m.dsts with | true => none | false => T.get t) (hhb : hb.get = baseH g G owns (absS s)) (r : Row)
    {kont : List (Nat × BK) → R} {kont' : List (Nat × BK) → Option (AV × St)} (hk : ∀ x, Le ((kont x).map absP) (kont' x)) :
    Le ((rowM ops m Td hb s r kont).map absP) ((roundE ops' m g G owns T.get (absS s) r).bind kont') := by
  unfold rowM
  rw [setM_eq, setM_eq]
  obtain ⟨h0, n, forb, mark, log⟩ := s
  show Le ((ops (putM _ Td) ⟨putM _ hb, n, forb, n, []⟩ _).map absP) _
  have e1 : (putM [(m.t, some (.tup [pkB true, r.2.1, r.2.2])), (m.t', some (.v (pkB true))), (m.u, some (.tup [r.2.1, r.2.2]))] Td).get = roundT m T.get r := by
    rw [putM_get, hTd]; rfl
  have e2 : absS ⟨putM ((ownR r).map fun b => (b, h0.get b)) hb, n, forb, n, []⟩ = roundS g G owns (absS ⟨h0, n, forb, mark, log⟩) r := by
    unfold absS roundS
    simp only [putM_get, updM_map (fun b => h0.get b), hhb]
    congr 1
  have hle := ho (putM [(m.t, some (.tup [pkB true, r.2.1, r.2.2])), (m.t', some (.v (pkB true))), (m.u, some (.tup [r.2.1, r.2.2]))] Td) ⟨putM ((ownR r).map fun b => (b, h0.get b)) hb, n, forb, n, []⟩
    (fun e _ s' => Bool.rec (motive := fun _ => R) none (StK.rec (motive := fun _ => R) (fun h' _ _ _ log => Bool.rec (motive := fun _ => R) none (Option.rec (motive := fun _ => R) none kont (resR (absS s') (ownR r))) (logOk (ownR r) h' (putM ((ownR r).map fun b => (b, h0.get b)) hb) log)) s') (isOk m.bid e))
    (fun c => (chk (isOk m.bid c.e) (chk (decide (RoundOk (roundS g G owns (absS ⟨h0, n, forb, mark, log⟩) r) (ownR r) c.s)) (resR c.s (ownR r)))).bind kont') (fun e T' s' => ?_)
  · rw [e1, e2] at hle
    unfold roundE
    rw [Option.bind_assoc]
    exact hle
  · show Le ((Bool.rec (motive := fun _ => R) none _ (isOk m.bid e) : R).map absP) _
    simp only
    cases isOk m.bid e with
    | false => exact Le.none _
    | true =>
      obtain ⟨h', n', forb', mark', log'⟩ := s'
      show Le ((Bool.rec (motive := fun _ => R) none (Option.rec (motive := fun _ => R) none kont (resR (absS ⟨h', n', forb', mark', log'⟩) (ownR r))) (logOk (ownR r) h' (putM ((ownR r).map fun b => (b, h0.get b)) hb) log') : R).map absP) _
      cases hl : logOk (ownR r) h' (putM ((ownR r).map fun b => (b, h0.get b)) hb) log' with
      | false => exact Le.none _
      | true =>
        have hRo : RoundOk (roundS g G owns (absS ⟨h0, n, forb, mark, log⟩) r) (ownR r) (absS ⟨h', n', forb', mark', log'⟩) := by
          intro k _ hw hown
          rw [← e2]
          exact logOk_spec hl k hw hown
        rw [decide_eq_true hRo]
        show Le ((Option.rec (motive := fun _ => R) none kont (resR (absS ⟨h', n', forb', mark', log'⟩) (ownR r)) : R).map absP) ((resR (absS ⟨h', n', forb', mark', log'⟩) (ownR r)).bind kont')
        cases resR (absS ⟨h', n', forb', mark', log'⟩) (ownR r) with
        | none => exact Le.none _
        | some x => exact hk x
theorem rowsM_le (ho : OpsLe ops ops') (hTd : Td.get = fun t => match memL t m.dsts with | true => none | false => T.get t) (hhb : hb.get = baseH g G owns (absS s)) : ∀ (rows : List Row) (acc : List (Nat × BK))
    {kont : List (Nat × BK) → R} {kont' : List (Nat × BK) → Option (AV × St)}, (∀ x, Le ((kont x).map absP) (kont' x)) → Le ((rowsM ops m Td hb s rows acc kont).map absP) ((roundsE ops' m g G owns T.get (absS s) rows).bind fun y => kont' (acc ++ y))
  | [], acc, kont, kont', hk => by
    show Le ((kont acc).map absP) (kont' (acc ++ []))
    rw [List.append_nil]; exact hk acc
  | r :: rows, acc, kont, kont', hk => by
    show Le ((rowM ops m Td hb s r fun x => rowsM ops m Td hb s rows (acc ++ x) kont).map absP) _
    have := rowM_le (G := G) (owns := owns) (g := g) ho hTd hhb r (kont := fun x => rowsM ops m Td hb s rows (acc ++ x) kont) (kont' := fun x => (roundsE ops' m g G owns T.get (absS s) rows).bind fun y => kont' ((acc ++ x) ++ y))
      (fun x => rowsM_le ho hTd hhb rows (acc ++ x) hk)
    simp only [roundsE]
    rw [Option.bind_assoc]
    simp only [Option.bind_assoc, Option.bind_some]
    simp only [List.append_assoc] at this
    exact this
theorem map1K_le (ho : OpsLe ops ops') (T : TK) (s : StK) {k : KF} {k' : CS → Option (AV × St)} (hk : CKOk k k') : Le ((map1K nt m ops g T s k).map absP) ((mapLoop1E nt ops' m g T.get (absS s)).bind k') := by
  unfold map1K mapLoop1E
  rw [forceL_eq, forceL_eq]
  simp only
  generalize gen1 T.get (absS s) g.mb nt = G
  generalize ownsOf g.rows = owns
  cases nodupB (g.it :: g.mb :: (G ++ owns)) with
  | false => exact Le.none _
  | true =>
    cases isPlain (absS s) (G ++ owns) with
    | false => exact Le.none _
    | true =>
      show Le ((setM AV _ T _ : R).map absP) (Option.bind ((roundsE ops' m g G owns T.get (absS s) g.rows).bind _) k')
      rw [setM_eq, setM_eq, setM_eq, Option.bind_assoc]
      have hTd : (putM (m.dsts.map fun d => (d, (none : Option AV))) T).get = fun t => match memL t m.dsts with | true => none | false => T.get t := by
        rw [putM_get, updM_map fun _ => none]
      have hhb : (putM ((g.it :: owns).map fun b => (b, (none : Option BK))) (putM (G.map fun b => (b, (s.h.get b).map genB)) s.h)).get = baseH g G owns (absS s) := by
        rw [putM_get, putM_get, updM_map fun _ => none, updM_map fun b => (s.h.get b).map genB]
        rfl
      have := rowsM_le (G := G) (owns := owns) (g := g) (m := m) (T := T) (s := s) ho hTd hhb g.rows [] (kont := fun res => Option.rec (motive := fun _ => R) none (fun s3 => setM AV [(m.t, some (.tup [pkB false])), (m.t', some (.v (pkB false)))] (putM (m.dsts.map fun d => (d, (none : Option AV))) T) fun Te => k (.exit m.e0) Te s3) (finMK s g.it G res))
        (kont' := fun res => Option.bind (((absS s).put g.it none).bind fun s1 => (gensE (absS s) G s1).bind fun s2 => (putsE res s2).bind fun s3 => some ⟨.exit m.e0, exitT m T.get, s3⟩) k') (fun res => ?_)
      · simpa only [List.nil_append] using this
      · have e := finMK_eq s g.it G res
        have e3 : (((absS s).put g.it none).bind fun s1 => (gensE (absS s) G s1).bind fun s2 => (putsE res s2).bind fun s3 => some (CS.mk (.exit m.e0) (exitT m T.get) s3)) = ((finMK s g.it G res).map absS).bind fun s3 => some (CS.mk (.exit m.e0) (exitT m T.get) s3) := by
          rw [e, Option.bind_assoc]
          congr 1; funext s1
          rw [Option.bind_assoc]
        rw [e3]
        cases finMK s g.it G res with
        | none => exact Le.none _
        | some s3 =>
          show Le ((setM AV _ _ _ : R).map absP) (k' ⟨.exit m.e0, exitT m T.get, absS s3⟩)
          rw [setM_eq]
          have e4 : (putM [(m.t, some (.tup [pkB false])), (m.t', some (.v (pkB false)))] (putM (m.dsts.map fun d => (d, (none : Option AV))) T)).get = exitT m T.get := by
            rw [putM_get, hTd]; rfl
          rw [← e4]
          exact hk _ _ _
theorem rowM2_le (ho : OpsLe ops ops') (hTd : Td.get = fun t => match memL t m.dsts with | true => none | false => T.get t) {S : St} (hSn : S.n = s.n) (hSf : S.forb = (absS s).forb) (hhb : hb.get = baseH g G owns S) (rows : List Row) (r : Row) (hown : ∀ b, memL b (ownR r) = true → s.h.get b = S.h b)
    {kont : List (Nat × BK) → TV → R} {kont' : List (Nat × BK) × TV → Option (AV × St)} (hk : ∀ x v, Le ((kont x v).map absP) (kont' (x, v))) :
    Le ((rowM2 ops m g.mb g.clock Td hb s rows r kont).map absP) ((round2E ops' m g G owns T.get S rows r).bind kont') := by
  unfold rowM2
  rw [setM_eq, setM_eq]
  obtain ⟨h0, n, forb, mark, log⟩ := s
  show Le ((ops (putM _ Td) ⟨putM _ hb, n, forb, n, []⟩ _).map absP) _
  have e1 : (putM [(m.t, some (.tup [pkB true, r.2.1, r.2.2])), (m.t', some (.v (pkB true))), (m.u, some (.tup [r.2.1, r.2.2]))] Td).get = roundT m T.get r := by
    rw [putM_get, hTd]; rfl
  have e2 : absS ⟨putM ((ownR r).map fun b => (b, h0.get b)) hb, n, forb, n, []⟩ = roundS g G owns S r := by
    unfold absS roundS
    simp only [putM_get, updM_map (fun b => h0.get b), hhb]
    rw [hSn, hSf]
    congr 1
    funext k
    cases hm : memL k (ownR r) with
    | true => exact hown k hm
    | false => rfl
  have hle := ho (putM [(m.t, some (.tup [pkB true, r.2.1, r.2.2])), (m.t', some (.v (pkB true))), (m.u, some (.tup [r.2.1, r.2.2]))] Td) ⟨putM ((ownR r).map fun b => (b, h0.get b)) hb, n, forb, n, []⟩
    (fun e _ s' => Bool.rec (motive := fun _ => R) none (StK.rec (motive := fun _ => R) (fun h' _ _ _ log => Option.rec (motive := fun _ => R) none (fun v => Bool.rec (motive := fun _ => R) none (Bool.rec (motive := fun _ => R) none (Bool.rec (motive := fun _ => R) none
        (Option.rec (motive := fun _ => R) none (fun x => kont x v) (resR (absS s') (ownR r))) (logOk (g.mb :: ownR r) h' (putM ((ownR r).map fun b => (b, h0.get b)) hb) log)) (sameOB (h'.get g.mb) (some (mapB (setB r.1 v rows) g.clock)))) (ownV v r.2.2)) (valO r.1 (h'.get g.mb))) s') (isOk m.bid e))
    (fun c => (chk (isOk m.bid c.e) ((valO r.1 (c.s.h g.mb)).bind fun v => chk (ownV v r.2.2) (chk (decide (c.s.h g.mb = some (mapB (setB r.1 v rows) g.clock))) (chk (decide (RoundOk (roundS g G owns S r) (g.mb :: ownR r) c.s)) ((resR c.s (ownR r)).bind fun R => some (R, v)))))).bind kont') (fun e T' s' => ?_)
  · rw [e1, e2] at hle
    unfold round2E
    rw [Option.bind_assoc]
    exact hle
  · show Le ((Bool.rec (motive := fun _ => R) none _ (isOk m.bid e) : R).map absP) _
    simp only
    cases isOk m.bid e with
    | false => exact Le.none _
    | true =>
      obtain ⟨h', n', forb', mark', log'⟩ := s'
      show Le ((Option.rec (motive := fun _ => R) none _ (valO r.1 (h'.get g.mb)) : R).map absP) (((valO r.1 (h'.get g.mb)).bind fun v => chk (ownV v r.2.2) (chk (decide (h'.get g.mb = some (mapB (setB r.1 v rows) g.clock))) (chk (decide (RoundOk (roundS g G owns S r) (g.mb :: ownR r) (absS ⟨h', n', forb', mark', log'⟩))) ((resR (absS ⟨h', n', forb', mark', log'⟩) (ownR r)).bind fun R => some (R, v))))).bind kont')
      cases valO r.1 (h'.get g.mb) with
      | none => exact Le.none _
      | some v =>
        show Le ((Bool.rec (motive := fun _ => R) none _ (ownV v r.2.2) : R).map absP) ((chk (ownV v r.2.2) _).bind kont')
        cases ownV v r.2.2 with
        | false => exact Le.none _
        | true =>
          show Le ((Bool.rec (motive := fun _ => R) none _ (sameOB (h'.get g.mb) (some (mapB (setB r.1 v rows) g.clock))) : R).map absP) ((chk (decide (h'.get g.mb = some (mapB (setB r.1 v rows) g.clock))) _).bind kont')
          cases hs : sameOB (h'.get g.mb) (some (mapB (setB r.1 v rows) g.clock)) with
          | false => exact Le.none _
          | true =>
            rw [decide_eq_true (sameOB_eq hs)]
            show Le ((Bool.rec (motive := fun _ => R) none (Option.rec (motive := fun _ => R) none (fun x => kont x v) (resR (absS ⟨h', n', forb', mark', log'⟩) (ownR r))) (logOk (g.mb :: ownR r) h' (putM ((ownR r).map fun b => (b, h0.get b)) hb) log') : R).map absP) ((chk (decide (RoundOk (roundS g G owns S r) (g.mb :: ownR r) (absS ⟨h', n', forb', mark', log'⟩))) _).bind kont')
            cases hl : logOk (g.mb :: ownR r) h' (putM ((ownR r).map fun b => (b, h0.get b)) hb) log' with
            | false => exact Le.none _
            | true =>
              have hRo : RoundOk (roundS g G owns S r) (g.mb :: ownR r) (absS ⟨h', n', forb', mark', log'⟩) := by
                intro k _ hw hown
                rw [← e2]
                exact logOk_spec hl k hw hown
              rw [decide_eq_true hRo]
              show Le ((Option.rec (motive := fun _ => R) none (fun x => kont x v) (resR (absS ⟨h', n', forb', mark', log'⟩) (ownR r)) : R).map absP) (((resR (absS ⟨h', n', forb', mark', log'⟩) (ownR r)).bind fun R => some (R, v)).bind kont')
              cases resR (absS ⟨h', n', forb', mark', log'⟩) (ownR r) with
              | none => exact Le.none _
              | some x => exact hk x v
theorem rowsM2_le (ho : OpsLe ops ops') (hTd : Td.get = fun t => match memL t m.dsts with | true => none | false => T.get t) {S : St} (hSn : S.n = s.n) (hSf : S.forb = (absS s).forb) (hhb : hb.get = baseH g G owns S) (rows : List Row) : ∀ (l : List Row) (acc : List (Nat × BK)) (news : List (Nat × TV))
    {kont : List (Nat × BK) → List (Nat × TV) → R} {kont' : List (Nat × BK) × List (Nat × TV) → Option (AV × St)}, (∀ r ∈ l, ∀ b, memL b (ownR r) = true → s.h.get b = S.h b) → (∀ x N, Le ((kont x N).map absP) (kont' (x, N))) →
    Le ((rowsM2 ops m g.mb g.clock Td hb s rows l acc news kont).map absP) ((rounds2E ops' m g G owns T.get S rows l).bind fun y => kont' (acc ++ y.1, news ++ y.2))
  | [], acc, news, kont, kont', _, hk => by
    show Le ((kont acc news).map absP) (kont' (acc ++ [], news ++ []))
    rw [List.append_nil, List.append_nil]; exact hk acc news
  | r :: l, acc, news, kont, kont', hown, hk => by
    show Le ((rowM2 ops m g.mb g.clock Td hb s rows r fun x v => rowsM2 ops m g.mb g.clock Td hb s rows l (acc ++ x) (news ++ Bool.rec (motive := fun _ => List (Nat × TV)) [(r.1, v)] [] (sameT v r.2.2)) kont).map absP) _
    have := rowM2_le (G := G) (owns := owns) (g := g) ho hTd hSn hSf hhb rows r (hown r List.mem_cons_self) (kont := fun x v => rowsM2 ops m g.mb g.clock Td hb s rows l (acc ++ x) (news ++ Bool.rec (motive := fun _ => List (Nat × TV)) [(r.1, v)] [] (sameT v r.2.2)) kont)
      (kont' := fun p => (rounds2E ops' m g G owns T.get S rows l).bind fun y => kont' ((acc ++ p.1) ++ y.1, (news ++ Bool.rec (motive := fun _ => List (Nat × TV)) [(r.1, p.2)] [] (sameT p.2 r.2.2)) ++ y.2))
      (fun x v => rowsM2_le ho hTd hSn hSf hhb rows l (acc ++ x) _ (fun r hr => hown r (List.mem_cons_of_mem _ hr)) hk)
    have e : ((rounds2E ops' m g G owns T.get S rows (r :: l)).bind fun y => kont' (acc ++ y.1, news ++ y.2)) = ((round2E ops' m g G owns T.get S rows r).bind fun p => (rounds2E ops' m g G owns T.get S rows l).bind fun y => kont' ((acc ++ p.1) ++ y.1, (news ++ Bool.rec (motive := fun _ => List (Nat × TV)) [(r.1, p.2)] [] (sameT p.2 r.2.2)) ++ y.2)) := by
      simp only [rounds2E]
      rw [Option.bind_assoc]
      congr 1; funext p
      rw [Option.bind_assoc]
      congr 1; funext y
      simp only [Option.bind_some, List.append_assoc]
      cases sameT p.2 r.2.2 <;> simp
    rw [e]
    exact this
theorem fin2K_le {Td : TK} (hTd : Td.get = fun t => match memL t m.dsts with | true => none | false => T.get t) (res : List (Nat × BK)) (rows : List Row) {k : KF} {k' : CS → Option (AV × St)} (hk : CKOk k k') :
    Le ((fin2K m g G Td s res rows k).map absP) ((fin2E m g G T.get (absS s) res rows).bind k') := by
  have e3 : fin2E m g G T.get (absS s) res rows = ((ob (finMK s g.it G res) fun s3 => putK s3 g.mb (some (mapB rows g.clock))).map absS).bind fun s4 => some (CS.mk (.exit m.e0) (exitT m T.get) s4) := by
    unfold fin2E
    have e := finMK_eq s g.it G res
    rw [ob_eq]
    have : ((finMK s g.it G res).bind fun s3 => putK s3 g.mb (some (mapB rows g.clock))).map absS = ((finMK s g.it G res).map absS).bind fun s3 => s3.put g.mb (some (mapB rows g.clock)) := by
      cases finMK s g.it G res with
      | none => rfl
      | some s3 => exact putK_eq s3 g.mb _
    rw [this, e]
    simp only [Option.bind_assoc]
  rw [e3]
  unfold fin2K
  cases (ob (finMK s g.it G res) fun s3 => putK s3 g.mb (some (mapB rows g.clock))) with
  | none => exact Le.none _
  | some s4 =>
    show Le ((setM AV _ _ _ : R).map absP) (k' ⟨.exit m.e0, exitT m T.get, absS s4⟩)
    rw [setM_eq]
    have e4 : (putM [(m.t, some (.tup [pkB false])), (m.t', some (.v (pkB false)))] Td).get = exitT m T.get := by
      rw [putM_get, hTd]; rfl
    rw [← e4]
    exact hk _ _ _
theorem map2K_le (ho : OpsLe ops ops') (T : TK) (s : StK) {k : KF} {k' : CS → Option (AV × St)} (hk : CKOk k k') : Le ((map2K nt m ops g T s k).map absP) ((mapLoop2E nt ops' m g T.get (absS s)).bind k') := by
  unfold map2K mapLoop2E
  rw [forceL_eq, forceL_eq]
  simp only
  generalize gen1 T.get (absS s) g.mb nt = G
  generalize howns : ownsOf g.rows = owns
  cases hnd : nodupB (g.it :: g.mb :: (G ++ owns)) with
  | false => exact Le.none _
  | true =>
    cases isPlain (absS s) (G ++ owns) with
    | false => exact Le.none _
    | true =>
      cases hsm : sameOB (s.h.get g.mb) (some (mapB g.rows g.clock)) with
      | false => exact Le.none _
      | true =>
        have hd : decide ((absS s).h g.mb = some (mapB g.rows g.clock)) = true := decide_eq_true (sameOB_eq hsm)
        rw [hd]
        simp only [nodupB_iff, List.nodup_cons, List.mem_cons, List.mem_append, not_or] at hnd
        obtain ⟨⟨a1, a2, a3⟩, ⟨a4, a5⟩, a6⟩ := hnd
        show Le ((setM AV _ T _ : R).map absP) (Option.bind ((rounds2E ops' m g G owns T.get (absS s) g.rows g.rows).bind _) k')
        rw [setM_eq, setM_eq, setM_eq, Option.bind_assoc]
        have hTd : (putM (m.dsts.map fun d => (d, (none : Option AV))) T).get = fun t => match memL t m.dsts with | true => none | false => T.get t := by
          rw [putM_get, updM_map fun _ => none]
        have hhb : (putM ((g.it :: owns).map fun b => (b, (none : Option BK))) (putM (G.map fun b => (b, (s.h.get b).map genB)) s.h)).get = baseH g G owns (absS s) := by
          rw [putM_get, putM_get, updM_map fun _ => none, updM_map fun b => (s.h.get b).map genB]
          rfl
        generalize putM (m.dsts.map fun d => (d, (none : Option AV))) T = Td at hTd ⊢
        generalize putM ((g.it :: owns).map fun b => (b, (none : Option BK))) (putM (G.map fun b => (b, (s.h.get b).map genB)) s.h) = hb at hhb ⊢
        have main := rowsM2_le (G := G) (owns := owns) (g := g) (m := m) (T := T) (s := s) (Td := Td) (hb := hb) ho hTd (S := absS s) rfl rfl hhb g.rows g.rows [] []
          (kont := fun res N => List.rec (motive := fun _ => R) (fin2K m g G Td s res g.rows k)
            (fun q l _ => List.rec (motive := fun _ => R) (setM BK [(g.mb, some (mapB (setB q.1 q.2 g.rows) g.clock))] hb fun hb2 =>
              rowsM2 ops m g.mb g.clock Td hb2 s (setB q.1 q.2 g.rows) (dropB q.1 g.rows) [] [] fun res2 N2 => Bool.rec (motive := fun _ => R) none (Bool.rec (motive := fun _ => R) none (fin2K m g G Td s res (setB q.1 q.2 g.rows) k) (subO res res2)) (nullB N2)) (fun _ _ _ => none) l) N)
          (kont' := fun p => (match p.2 with
            | [] => fin2E m g G T.get (absS s) p.1 g.rows
            | q :: [] => (rounds2E ops' m g G owns T.get (atMap (absS s) g.mb (mapB (setB q.1 q.2 g.rows) g.clock)) (setB q.1 q.2 g.rows) (dropB q.1 g.rows)).bind fun p2 =>
              chk (nullB p2.2) (chk (decide (∀ x ∈ p2.1, x ∈ p.1)) (fin2E m g G T.get (absS s) p.1 (setB q.1 q.2 g.rows)))
            | _ :: _ :: _ => none).bind k') (fun r _ b _ => rfl) (fun res N => ?_)
        · exact main
        · match N with
          | [] => exact fin2K_le hTd res g.rows hk
          | _ :: _ :: _ => exact Le.none _
          | [q] =>
            show Le ((setM BK _ hb _ : R).map absP) (((rounds2E ops' m g G owns T.get (atMap (absS s) g.mb (mapB (setB q.1 q.2 g.rows) g.clock)) (setB q.1 q.2 g.rows) (dropB q.1 g.rows)).bind fun p2 =>
              chk (nullB p2.2) (chk (decide (∀ x ∈ p2.1, x ∈ res)) (fin2E m g G T.get (absS s) res (setB q.1 q.2 g.rows)))).bind k')
            rw [setM_eq, Option.bind_assoc]
            have hmo : ∀ {b : Nat}, b ≠ g.mb → (atMap (absS s) g.mb (mapB (setB q.1 q.2 g.rows) g.clock)).h b = s.h.get b := fun {b} hb' => by
              show upd (absS s).h g.mb _ b = _
              unfold Ev.upd
              rw [if_neg hb']; rfl
            have hhb2 : (putM [(g.mb, some (mapB (setB q.1 q.2 g.rows) g.clock))] hb).get = baseH g G owns (atMap (absS s) g.mb (mapB (setB q.1 q.2 g.rows) g.clock)) := by
              rw [putM_get, hhb]
              show upd (baseH g G owns (absS s)) g.mb _ = _
              funext b
              by_cases hbm : b = g.mb
              · subst hbm
                have q1 : Nat.beq g.it g.mb = false := by
                  cases hq : Nat.beq g.it g.mb
                  · rfl
                  · exact absurd (Nat.eq_of_beq_eq_true hq) a1
                simp only [Ev.upd, if_true, baseH, q1, memL_false.2 a5, Bool.or_self, genH, memL_false.2 a4, atMap]
              · have e := hmo hbm
                simp only [Ev.upd, if_neg hbm, baseH, genH]
                rw [e]; rfl
            have main2 := rowsM2_le (G := G) (owns := owns) (g := g) (m := m) (T := T) (s := s) (Td := Td) (hb := putM [(g.mb, some (mapB (setB q.1 q.2 g.rows) g.clock))] hb) ho hTd (S := atMap (absS s) g.mb (mapB (setB q.1 q.2 g.rows) g.clock)) rfl rfl hhb2 (setB q.1 q.2 g.rows) (dropB q.1 g.rows) [] []
              (kont := fun res2 N2 => Bool.rec (motive := fun _ => R) none (Bool.rec (motive := fun _ => R) none (fin2K m g G Td s res (setB q.1 q.2 g.rows) k) (subO res res2)) (nullB N2))
              (kont' := fun p2 => (chk (nullB p2.2) (chk (decide (∀ x ∈ p2.1, x ∈ res)) (fin2E m g G T.get (absS s) res (setB q.1 q.2 g.rows)))).bind k')
              (fun r hr b hb' => (hmo fun e => a5 (by
                rw [← howns, ← e]
                exact own_mem.2 ⟨r, dropB_mem hr, memL_iff.1 hb'⟩)).symm) (fun res2 N2 => ?_)
            · exact main2
            · show Le ((Bool.rec (motive := fun _ => R) none _ (nullB N2) : R).map absP) ((chk (nullB N2) _).bind k')
              cases nullB N2 with
              | false => exact Le.none _
              | true =>
                show Le ((Bool.rec (motive := fun _ => R) none _ (subO res res2) : R).map absP) ((chk (decide (∀ x ∈ res2, x ∈ res)) _).bind k')
                cases hsu : subO res res2 with
                | false => exact Le.none _
                | true =>
                  have hd2 : decide (∀ x ∈ res2, x ∈ res) = true := decide_eq_true (subO_mem hsu)
                  rw [hd2]
                  exact fin2K_le hTd res _ hk
theorem mapK_le (ho : OpsLe ops ops') (T : TK) (s : StK) {k : KF} {k' : CS → Option (AV × St)} (hk : CKOk k k') : Le ((mapK nt m ops g T s k).map absP) ((mapLoopE nt ops' m g T.get (absS s)).bind k') := by
  unfold mapK mapLoopE
  cases hasUpd m with
  | true => exact map2K_le ho T s hk
  | false => exact map1K_le ho T s hk
end

noncomputable def collK (ty : Nat → Option TI) (m : ML) (c : CL) (g : MG) (T : TK) (s : StK) (k : KF) : R :=
  Option.rec (motive := fun _ => R) none (fun q => Option.rec (motive := fun _ => R) none (fun lv => Bool.rec (motive := fun _ => R) none (Option.rec (motive := fun _ => R) none (fun s1 => Option.rec (motive := fun _ => R) none (fun p => Prod.rec (motive := fun _ => R) (fun n s2 =>
    setM AV (m.dsts.map fun d => (d, none)) T fun Td => setM AV [(m.t, some (.tup [pkB false])), (m.t', some (.v (pkB false))), (c.l, some (.v (.c (.slice n 0 g.rows.length (.opn 0)))))] Td fun Te => k (.exit m.e0) Te s2) p)
      (newK s1 (xB (.bag (g.rows.map keyC) q.e q.size)))) (putK s g.it none))
    (isSnil lv && (keysOk q.size g.rows && (Nat.ble g.rows.length 1048576 && (not ((absS s).forb (absS s).n || ((absS s).forb ((absS s).n + 1) || ((absS s).forb ((absS s).n + 2) || (absS s).forb ((absS s).n + 3)))) && not (Nat.beq g.mb g.it)))))) (T.get c.l)) (collTy ty c)
theorem collK_le {ty : Nat → Option TI} {m : ML} {c : CL} {g : MG} (T : TK) (s : StK) {k : KF} {k' : CS → Option (AV × St)} (hk : CKOk k k') : Le ((collK ty m c g T s k).map absP) ((collE ty m c g T.get (absS s)).bind k') := by
  unfold collK collE
  cases collTy ty c with
  | none => exact Le.none _
  | some q =>
    cases hl : T.get c.l with
    | none => simp only [Option.bind_some, hl, Option.bind_none]; exact Le.none _
    | some lv =>
      simp only [Option.bind_some, hl]
      cases isSnil lv with
      | false => exact Le.none _
      | true =>
      cases keysOk q.size g.rows with
      | false => exact Le.none _
      | true =>
      cases Nat.ble g.rows.length 1048576 with
      | false => exact Le.none _
      | true =>
      cases (not ((absS s).forb (absS s).n || ((absS s).forb ((absS s).n + 1) || ((absS s).forb ((absS s).n + 2) || (absS s).forb ((absS s).n + 3))))) with
      | false => exact Le.none _
      | true =>
      cases not (Nat.beq g.mb g.it) with
      | false => exact Le.none _
      | true =>
        show Le ((Option.rec (motive := fun _ => R) none _ (putK s g.it none) : R).map absP) (Option.bind (((absS s).put g.it none).bind _) k')
        rw [← putK_eq]
        cases putK s g.it none with
        | none => exact Le.none _
        | some s1 =>
          show Le ((Option.rec (motive := fun _ => R) none _ (newK s1 (xB (.bag (g.rows.map keyC) q.e q.size))) : R).map absP) (Option.bind (((absS s1).new (xB (.bag (g.rows.map keyC) q.e q.size))).bind _) k')
          rw [← newK_eq]
          cases newK s1 (xB (.bag (g.rows.map keyC) q.e q.size)) with
          | none => exact Le.none _
          | some p =>
            obtain ⟨n, s2⟩ := p
            show Le ((setM AV _ T _ : R).map absP) (k' ⟨.exit m.e0, collT m c T.get n g.rows.length, absS s2⟩)
            rw [setM_eq, setM_eq]
            have e4 : (putM [(m.t, some (.tup [pkB false])), (m.t', some (.v (pkB false))), (c.l, some (.v (.c (.slice n 0 g.rows.length (.opn 0)))))] (putM (m.dsts.map fun d => (d, (none : Option AV))) T)).get = collT m c T.get n g.rows.length := by
              rw [putM_get, putM_get, updM_map fun _ => none]
              rfl
            rw [← e4]
            exact hk _ _ _

noncomputable def kLoopC (ty : Nat → Option TI) (m : ML) (c : CL) (b : CFn) : CFn := fun f call T s k => Nat.rec (motive := fun _ => TK → StK → R) (fun _ _ => none)
  (fun f ih T s => Option.rec (motive := fun _ => R) (b f call T s fun e T s => kThen (ih T s) k T s e) (fun g => collK ty m c g T s k) (mlGo m T.get (absS s))) f T s
noncomputable def kLoopM (nt : Nat) (m : ML) (r : RF) (rest b : CFn) : CFn := fun f call T s k => Nat.rec (motive := fun _ => TK → StK → R) (fun _ _ => none)
  (fun f ih T s => Option.rec (motive := fun _ => R) (b f call T s fun e T s => kThen (ih T s) k T s e) (fun g => mapK nt m (fun T s k => r call T s fun T s => rest f call T s k) g T s k) (mlGo m T.get (absS s))) f T s
section
variable (ty : Nat → Option TI) (held : Nat → Bool)
noncomputable def regW (nt : Nat) (ops : Array Oper) (draw : Bool) : CW :=
  Bool.rec (motive := fun _ => CW) (RW.rec (motive := fun _ => CW) (fun r => ⟨kReg r⟩) (rC ty held nt ops.toList ops.toList)) (DW.rec (motive := fun _ => CW) (fun D => ⟨kReg (rDraw ty (masks ops.toList []) D)⟩) (dC ty held nt ops.toList ops.toList 0 (masks ops.toList []))) draw
/-- 'ih': the closures of what stands in a round of a loop over a map -/
noncomputable def loopW (nt : Nat) (ih : Code → CW) (b : Code) (bw : CW) : CW :=
  CW.rec (motive := fun _ => CW) (fun fb => Option.rec (motive := fun _ => CW) ⟨kLoop fb⟩ (fun m => RW.rec (motive := fun _ => CW) (fun r => CW.rec (motive := fun _ => CW) (fun rest => Option.rec (motive := fun _ => CW) ⟨kLoopM nt m r rest fb⟩ (fun c => ⟨kLoopC ty m c fb⟩) (collOf nt m)) (ih m.rest)) (rC ty held nt m.B.toList m.ops)) (mlOf nt b)) bw
noncomputable def codeD (nt : Nat) (ih : Code → CW) : Code → CW :=
  Code.rec (motive := fun _ => CW) ⟨kSkip⟩ (fun _ ops draw => regW ty held nt ops draw) (fun _ _ iha ihb => CW.rec (motive := fun _ => CW) (fun a => CW.rec (motive := fun _ => CW) (fun b => ⟨kSeq a b⟩) ihb) iha)
    (fun c _ _ iha ihb => GW.rec (motive := fun _ => CW) (fun g => ⟨kCond g iha ihb⟩) (oG c)) (fun id _ ih => CW.rec (motive := fun _ => CW) (fun b => ⟨kBlock id b⟩) ih) (fun b bw => loopW ty held nt ih b bw)
    (fun _ _ _ _ _ _ => ⟨kNone⟩) (fun id => ⟨kExit id⟩) (fun _ ih => CW.rec (motive := fun _ => CW) (fun b => ⟨kScope b⟩) ih) (fun _ => ⟨kSkip⟩) (fun _ => ⟨kNone⟩) ⟨kRet⟩ (fun _ => ⟨kNone⟩)
noncomputable def codeC (nt : Nat) : Code → CW := codeD ty held nt (codeD ty held nt fun _ => ⟨kNone⟩)
end
section
variable {ty : Nat → Option TI} {held : Nat → Bool} {c : CallK} {c' : CallF} {nt : Nat}

theorem regW_le (hc : CallLe c c') (id : Nat) (ops : Array Oper) (draw : Bool) (hok : allReg (.region id ops draw) = true) (f : Nat) (T : TK) (s : StK) {k : KF} {k' : CS → Option (AV × St)} (hk : CKOk k k') :
    Le (((regW ty held nt ops draw).f f c T s k).map absP) ((codeE ty held c' nt f (.region id ops draw) T.get (absS s)).bind k') := by
  have hk' : KOk (k .normal) fun T s => k' ⟨.normal, T, s⟩ := fun T s => hk .normal T s
  cases f with
  | zero =>
    have : (regW ty held nt ops draw).f 0 c T s k = none := by
      unfold regW
      cases draw with
      | false =>
        show (RW.rec (motive := fun _ => CW) (fun r => ⟨kReg r⟩) (rC ty held nt ops.toList ops.toList) : CW).f 0 c T s k = none
        cases rC ty held nt ops.toList ops.toList; rfl
      | true =>
        show (DW.rec (motive := fun _ => CW) (fun D => ⟨kReg (rDraw ty (masks ops.toList []) D)⟩) (dC ty held nt ops.toList ops.toList 0 (masks ops.toList [])) : CW).f 0 c T s k = none
        cases dC ty held nt ops.toList ops.toList 0 (masks ops.toList []); rfl
    rw [this]
    exact Le.none _
  | succ f =>
    show Le _ (((match draw with
        | false => opsE ty held c' nt ops.toList ops.toList T.get (absS s)
        | true => regE ty held c' nt ops T.get (absS s)).bind fun p => some (CS.mk .normal p.1 p.2)).bind k')
    rw [Option.bind_assoc]
    cases draw with
    | false =>
      have h := rPlain_le (ty := ty) (held := held) (nt := nt) hc ops.toList hk' T s
      show Le (((RW.rec (motive := fun _ => CW) (fun r => ⟨kReg r⟩) (rC ty held nt ops.toList ops.toList) : CW).f (f + 1) c T s k).map absP) _
      cases e : rC ty held nt ops.toList ops.toList with
      | mk r => rw [e] at h; exact h
    | true =>
      have h := rDraw_le (ty := ty) (held := held) (nt := nt) hc hok hk' T s
      show Le (((DW.rec (motive := fun _ => CW) (fun D => ⟨kReg (rDraw ty (masks ops.toList []) D)⟩) (dC ty held nt ops.toList ops.toList 0 (masks ops.toList [])) : CW).f (f + 1) c T s k).map absP) _
      cases e : dC ty held nt ops.toList ops.toList 0 (masks ops.toList []) with
      | mk D => rw [e] at h; exact h

theorem kThen_ok {b : R} {k : KF} {k' : CS → Option (AV × St)} (hk : CKOk k k') {T : TK} {s : StK} {nx : Option CS} (hb : Le (b.map absP) (nx.bind k')) (e : Ex) :
    Le ((kThen b k T s e).map absP) ((match isNormal e with | true => nx | false => some ⟨e, T.get, absS s⟩).bind k') := by
  cases e with
  | normal => exact hb
  | exit id => exact hk _ _ _
  | ret => exact hk _ _ _

theorem rPlain2_le (hc : CallLe c c') (all ops : List Oper) {k : TK → StK → R} {k' : TM → St → Option (AV × St)} (hk : KOk k k') (T : TK) (s : StK) :
    Le (((rC ty held nt all ops).f c T s k).map absP) ((opsE ty held c' nt all ops T.get (absS s)).bind fun p => k' p.1 p.2) := by
  rw [rC_eq]
  have h := opsK_le (ty := ty) (held := held) (nt := nt) hc all ops T s
  cases e : opsK ty held c nt all ops T s with
  | none => exact Le.none _
  | some p =>
    rw [e] at h
    rw [h _ rfl]
    exact hk p.1 p.2
def WLe (ty : Nat → Option TI) (held : Nat → Bool) (c : CallK) (c' : CallF) (nt : Nat) (w : CW) (cd : Code) : Prop := ∀ (f : Nat) (T : TK) (s : StK) (k : KF) (k' : CS → Option (AV × St)), CKOk k k' →
    Le ((w.f f c T s k).map absP) ((codeE ty held c' nt f cd T.get (absS s)).bind k')
theorem codeD_le (hc : CallLe c c') {W : Code → CW} (hW : ∀ cd, allReg cd = true → WLe ty held c c' nt (W cd) cd) : ∀ (cd : Code), allReg cd = true → ∀ (f : Nat) (T : TK) (s : StK) (k : KF) (k' : CS → Option (AV × St)), CKOk k k' →
    Le (((codeD ty held nt W cd).f f c T s k).map absP) ((codeE ty held c' nt f cd T.get (absS s)).bind k') := by
  intro cd
  induction cd with
  | skip =>
    intro _ f T s k k' hk
    cases f with
    | zero => exact Le.none _
    | succ f => exact hk _ _ _
  | label l =>
    intro _ f T s k k' hk
    cases f with
    | zero => exact Le.none _
    | succ f => exact hk _ _ _
  | exit id =>
    intro _ f T s k k' hk
    cases f with
    | zero => exact Le.none _
    | succ f => exact hk _ _ _
  | ret =>
    intro _ f T s k k' hk
    cases f with
    | zero => exact Le.none _
    | succ f => exact hk _ _ _
  | goto l => intro _ f T s k k' hk; exact Le.none _
  | refuse w => intro _ f T s k k' hk; exact Le.none _
  | rangeFunc g p a b iha ihb => intro _ f T s k k' hk; exact Le.none _
  | region id ops draw => intro hok f T s k k' hk; exact regW_le hc id ops draw hok f T s hk
  | seq a b iha ihb =>
    intro hok f T s k k' hk
    simp only [allReg, Bool.and_eq_true] at hok
    have iha := iha hok.1; have ihb := ihb hok.2
    show Le (((CW.rec (motive := fun _ => CW) (fun a => CW.rec (motive := fun _ => CW) (fun b => ⟨kSeq a b⟩) (codeD ty held nt W b)) (codeD ty held nt W a) : CW).f f c T s k).map absP) _
    cases ea : codeD ty held nt W a with
    | mk fa =>
      rw [ea] at iha
      show Le (((CW.rec (motive := fun _ => CW) (fun b => ⟨kSeq fa b⟩) (codeD ty held nt W b) : CW).f f c T s k).map absP) _
      cases eb : codeD ty held nt W b with
      | mk fb =>
        rw [eb] at ihb
        cases f with
        | zero => exact Le.none _
        | succ f =>
          show Le ((fa f c T s fun e T s => kThen (fb f c T s k) k T s e).map absP) ((thenE (codeE ty held c' nt f a T.get (absS s)) (codeE ty held c' nt f b)).bind k')
          unfold thenE
          rw [Option.bind_assoc]
          exact iha f T s _ (fun r => (match isNormal r.e with | true => codeE ty held c' nt f b r.T r.s | false => some r).bind k') fun e T s => kThen_ok hk (ihb f T s k k' hk) e
  | cond g a b iha ihb =>
    intro hok f T s k k' hk
    simp only [allReg, Bool.and_eq_true] at hok
    have iha := iha hok.1; have ihb := ihb hok.2
    show Le (((GW.rec (motive := fun _ => CW) (fun g => ⟨kCond g (codeD ty held nt W a) (codeD ty held nt W b)⟩) (oG g) : CW).f f c T s k).map absP) _
    have h2 := oG_eq g T
    cases eg : oG g with
    | mk gf =>
      rw [eg] at h2
      cases f with
      | zero => exact Le.none _
      | succ f =>
        show Le ((boolR (gf T) ((codeD ty held nt W a).f f c T s k) ((codeD ty held nt W b).f f c T s k)).map absP) (((evc T.get g).bind fun v => (boolOf v).bind fun c => match c with
          | true => codeE ty held c' nt f a T.get (absS s)
          | false => codeE ty held c' nt f b T.get (absS s)).bind k')
        rw [boolR_eq, show gf T = evK T g from h2]
        show Le ((ob (evcK T g) fun c => ob (boolOf c) fun b => _).map absP) _
        rw [evcK_eq]
        cases evc T.get g with
        | none => exact Le.none _
        | some v =>
          show Le ((ob (boolOf v) _).map absP) (((boolOf v).bind _).bind k')
          cases boolOf v with
          | none => exact Le.none _
          | some w =>
            cases w with
            | true => exact iha f T s k k' hk
            | false => exact ihb f T s k k' hk
  | block id b ih =>
    intro hok f T s k k' hk
    have ih := ih hok
    show Le (((CW.rec (motive := fun _ => CW) (fun b => ⟨kBlock id b⟩) (codeD ty held nt W b) : CW).f f c T s k).map absP) _
    cases eb : codeD ty held nt W b with
    | mk fb =>
      rw [eb] at ih
      cases f with
      | zero => exact Le.none _
      | succ f =>
        show Le ((fb f c T s fun e T s => k (leaveB id e) T s).map absP) (((codeE ty held c' nt f b T.get (absS s)).bind fun r => some ⟨leaveB id r.e, r.T, r.s⟩).bind k')
        rw [Option.bind_assoc]
        exact ih f T s _ (fun r => k' ⟨leaveB id r.e, r.T, r.s⟩) fun e T s => hk _ _ _
  | loop b ih =>
    intro hok f T s k k' hk
    have ih := ih hok
    show Le (((loopW ty held nt W b (codeD ty held nt W b)).f f c T s k).map absP) _
    unfold loopW
    cases eb : codeD ty held nt W b with
    | mk fb =>
      rw [eb] at ih
      show Le (((Option.rec (motive := fun _ => CW) ⟨kLoop fb⟩ (fun m => RW.rec (motive := fun _ => CW) (fun r => CW.rec (motive := fun _ => CW) (fun rest => Option.rec (motive := fun _ => CW) ⟨kLoopM nt m r rest fb⟩ (fun c => ⟨kLoopC ty m c fb⟩) (collOf nt m)) (W m.rest)) (rC ty held nt m.B.toList m.ops)) (mlOf nt b) : CW).f f c T s k).map absP) _
      cases hm : mlOf nt b with
      | none =>
        show Le ((kLoop fb f c T s k).map absP) _
        induction f generalizing T s with
        | zero => exact Le.none _
        | succ f ihf =>
          rw [show codeE ty held c' nt (f + 1) (.loop b) T.get (absS s) = thenE (codeE ty held c' nt f b T.get (absS s)) (codeE ty held c' nt f (.loop b)) by simp only [codeE, hm, Option.bind_none]]
          show Le ((fb f c T s fun e T s => kThen (kLoop fb f c T s k) k T s e).map absP) ((thenE (codeE ty held c' nt f b T.get (absS s)) (codeE ty held c' nt f (.loop b))).bind k')
          unfold thenE
          rw [Option.bind_assoc]
          exact ih f T s _ (fun r => (match isNormal r.e with | true => codeE ty held c' nt f (.loop b) r.T r.s | false => some r).bind k') fun e T s => kThen_ok hk (ihf T s) e
      | some m =>
        have hrest : allReg m.rest = true := by
          have hb := (mlOf_some hm).1
          rw [hb] at hok
          simp only [allReg, Bool.and_eq_true] at hok
          exact hok.2.2.2
        show Le (((RW.rec (motive := fun _ => CW) (fun r => CW.rec (motive := fun _ => CW) (fun rest => Option.rec (motive := fun _ => CW) ⟨kLoopM nt m r rest fb⟩ (fun c => ⟨kLoopC ty m c fb⟩) (collOf nt m)) (W m.rest)) (rC ty held nt m.B.toList m.ops) : CW).f f c T s k).map absP) _
        cases er : rC ty held nt m.B.toList m.ops with
        | mk rr =>
          show Le (((CW.rec (motive := fun _ => CW) (fun rest => Option.rec (motive := fun _ => CW) ⟨kLoopM nt m rr rest fb⟩ (fun c => ⟨kLoopC ty m c fb⟩) (collOf nt m)) (W m.rest) : CW).f f c T s k).map absP) _
          have hWr := hW m.rest hrest
          cases ew : W m.rest with
          | mk rest =>
            rw [ew] at hWr
            show Le (((Option.rec (motive := fun _ => CW) ⟨kLoopM nt m rr rest fb⟩ (fun c => ⟨kLoopC ty m c fb⟩) (collOf nt m) : CW).f f c T s k).map absP) _
            cases hco : collOf nt m with
            | some cc =>
              show Le ((kLoopC ty m cc fb f c T s k).map absP) _
              induction f generalizing T s with
              | zero => exact Le.none _
              | succ f ihf =>
                show Le ((Option.rec (motive := fun _ => R) (fb f c T s fun e T s => kThen (kLoopC ty m cc fb f c T s k) k T s e) (fun g => collK ty m cc g T s k) (mlGo m T.get (absS s)) : R).map absP) _
                cases hg : mlGo m T.get (absS s) with
                | none =>
                  rw [show codeE ty held c' nt (f + 1) (.loop b) T.get (absS s) = thenE (codeE ty held c' nt f b T.get (absS s)) (codeE ty held c' nt f (.loop b)) by simp only [codeE, hm, hg, Option.bind_some, Option.bind_none]]
                  show Le ((fb f c T s fun e T s => kThen (kLoopC ty m cc fb f c T s k) k T s e).map absP) ((thenE (codeE ty held c' nt f b T.get (absS s)) (codeE ty held c' nt f (.loop b))).bind k')
                  unfold thenE
                  rw [Option.bind_assoc]
                  exact ih f T s _ (fun r => (match isNormal r.e with | true => codeE ty held c' nt f (.loop b) r.T r.s | false => some r).bind k') fun e T s => kThen_ok hk (ihf T s) e
                | some g =>
                  rw [show codeE ty held c' nt (f + 1) (.loop b) T.get (absS s) = collE ty m cc g T.get (absS s) by simp only [codeE, hm, hg, hco, Option.bind_some]]
                  exact collK_le T s hk
            | none =>
            show Le ((kLoopM nt m rr rest fb f c T s k).map absP) _
            induction f generalizing T s with
            | zero => exact Le.none _
            | succ f ihf =>
              show Le ((Option.rec (motive := fun _ => R) (fb f c T s fun e T s => kThen (kLoopM nt m rr rest fb f c T s k) k T s e) (fun g => mapK nt m (fun T s k => rr c T s fun T s => rest f c T s k) g T s k) (mlGo m T.get (absS s)) : R).map absP) _
              cases hg : mlGo m T.get (absS s) with
              | none =>
                rw [show codeE ty held c' nt (f + 1) (.loop b) T.get (absS s) = thenE (codeE ty held c' nt f b T.get (absS s)) (codeE ty held c' nt f (.loop b)) by simp only [codeE, hm, hg, Option.bind_some, Option.bind_none]]
                show Le ((fb f c T s fun e T s => kThen (kLoopM nt m rr rest fb f c T s k) k T s e).map absP) ((thenE (codeE ty held c' nt f b T.get (absS s)) (codeE ty held c' nt f (.loop b))).bind k')
                unfold thenE
                rw [Option.bind_assoc]
                exact ih f T s _ (fun r => (match isNormal r.e with | true => codeE ty held c' nt f (.loop b) r.T r.s | false => some r).bind k') fun e T s => kThen_ok hk (ihf T s) e
              | some g =>
                rw [show codeE ty held c' nt (f + 1) (.loop b) T.get (absS s) = mapLoopE nt (fun T s => (opsE ty held c' nt m.B.toList m.ops T s).bind fun p => codeE ty held c' nt f m.rest p.1 p.2) m g T.get (absS s) by simp only [codeE, hm, hg, hco, Option.bind_some]]
                refine mapK_le (fun T s k k' hk => ?_) T s hk
                have h1 := rPlain2_le (ty := ty) (held := held) (nt := nt) hc m.B.toList m.ops (k := fun T s => rest f c T s k) (k' := fun T s => (codeE ty held c' nt f m.rest T s).bind k') (fun T s => hWr f T s k k' hk) T s
                rw [er] at h1
                rw [Option.bind_assoc]
                exact h1
  | scope b ih =>
    intro hok f T s k k' hk
    have ih := ih hok
    show Le (((CW.rec (motive := fun _ => CW) (fun b => ⟨kScope b⟩) (codeD ty held nt W b) : CW).f f c T s k).map absP) _
    cases eb : codeD ty held nt W b with
    | mk fb =>
      rw [eb] at ih
      cases f with
      | zero => exact Le.none _
      | succ f => exact ih f T s k k' hk
theorem codeC_le (hc : CallLe c c') (cd : Code) (h : allReg cd = true) : WLe ty held c c' nt (codeC ty held nt cd) cd :=
  codeD_le hc (fun cd h => codeD_le hc (W := fun _ => ⟨kNone⟩) (fun cd _ f T s k k' _ => Le.none _) cd h) cd h
end

/-! calls -/
abbrev FF := CallK → List AV → StK → R
structure FW where
  f : FF
noncomputable def fLeave (ty : Nat → Option TI) (res : List ResultVar) : KF := fun e T s => Bool.rec (motive := fun _ => R) (Option.rec (motive := fun _ => R) none (fun l => some (packR l, s)) (resK ty T s res)) none (isExit e)
noncomputable def fRun (ty : Nat → Option TI) (steps nt : Nat) (res : List ResultVar) (cd : CFn) : FF := fun call args s => Bool.rec (motive := fun _ => R) none (enterK (fun T => cd steps call T s (fLeave ty res)) args 0 .nil) (Nat.ble (lenK args) nt)
noncomputable def fnC (ty : Nat → Option TI) (held : Nat → Bool) (steps : Nat) (F : Func) (code : Code) : FW := bw (fnOk F) (CW.rec (motive := fun _ => FW) (fun cd => ⟨fRun ty steps F.ntmps F.results.toList cd⟩) (codeC ty held F.ntmps code)) ⟨fun _ _ _ => none⟩
noncomputable def fC (ty : Nat → Option TI) (held : Nat → Bool) (steps : Nat) (fn : Nat → Option Func) (f : Nat) : FW :=
  Option.rec (motive := fun _ => FW) ⟨fun _ _ _ => none⟩ (fun F => Option.rec (motive := fun _ => FW) ⟨fun _ _ _ => none⟩ (fun code => fnC ty held steps F code) F.body) (fn f)
noncomputable def callC (ty : Nat → Option TI) (held : Nat → Bool) (hk : CallK) (fn : Nat → Option Func) (steps d : Nat) : CallK :=
  Nat.rec (motive := fun _ => CallK) (fun _ _ _ => none) (fun _ ih f args s => Option.rec (motive := fun _ => R) ((fC ty held steps fn f).f ih args s) (fun r => some r) (hk f args s)) d

theorem enterK_le {k : TK → R} {k' : TM → Option (AV × St)} (h : ∀ T, Le ((k T).map absP) (k' T.get)) : ∀ (l : List AV) (i : Nat) (T : TK), Le ((enterK k l i T).map absP) (k' (enterE l i T.get))
  | [], i, T => h T
  | v :: l, i, T => by
    rw [show enterK k (v :: l) i T = T.set i (some v) fun T => enterK k l (Nat.succ i) T from rfl, set_eq]
    have := enterK_le h l (Nat.succ i) (Tr.put (some v) (pth i) T)
    rw [put_get'] at this
    exact this

theorem callC_le {ty : Nat → Option TI} {held : Nat → Bool} {hk : CallK} {hk' : CallF} (hh : CallEq hk hk') {fn : Nat → Option Func} {steps : Nat} (hr : ∀ f F k, fn f = some F → F.body = some k → allReg k = true) :
    ∀ d, CallLe (callC ty held hk fn steps d) (callE ty held hk' fn steps d) := by
  intro d
  induction d with
  | zero => intro f l s; exact Le.none _
  | succ d ih =>
    intro f l s
    show Le ((Option.rec (motive := fun _ => R) ((fC ty held steps fn f).f (callC ty held hk fn steps d) l s) (fun r => some r) (hk f l s) : R).map absP) (orE (hk' f l (absS s)) ((fn f).bind _))
    rw [← hh f l s]
    cases hk f l s with
    | some r => exact Le.refl _
    | none =>
      show Le (((fC ty held steps fn f).f (callC ty held hk fn steps d) l s).map absP) ((fn f).bind _)
      unfold fC
      cases hf : fn f with
      | none => exact Le.none _
      | some F =>
        show Le (((Option.rec (motive := fun _ => FW) ⟨fun _ _ _ => none⟩ (fun code => fnC ty held steps F code) F.body : FW).f (callC ty held hk fn steps d) l s).map absP) (F.body.bind _)
        cases hb : F.body with
        | none => exact Le.none _
        | some code =>
          show Le (((fnC ty held steps F code).f (callC ty held hk fn steps d) l s).map absP) (chk (fnOk F) (chk (Nat.ble l.length F.ntmps) _))
          unfold fnC
          cases fnOk F with
          | false => exact Le.none _
          | true =>
            show Le (((CW.rec (motive := fun _ => FW) (fun cd => ⟨fRun ty steps F.ntmps F.results.toList cd⟩) (codeC ty held F.ntmps code) : FW).f (callC ty held hk fn steps d) l s).map absP) (chk (Nat.ble l.length F.ntmps) _)
            have hcd := codeC_le (ty := ty) (held := held) (nt := F.ntmps) ih code (hr f F code hf hb)
            cases e : codeC ty held F.ntmps code with
            | mk cd =>
              rw [e] at hcd
              show Le ((Bool.rec (motive := fun _ => R) none (enterK (fun T => cd steps (callC ty held hk fn steps d) T s (fLeave ty F.results.toList)) l 0 .nil) (Nat.ble (lenK l) F.ntmps) : R).map absP) _
              rw [lenK_eq]
              cases Nat.ble l.length F.ntmps with
              | false => exact Le.none _
              | true =>
                have h := enterK_le (k := fun T => cd steps (callC ty held hk fn steps d) T s (fLeave ty F.results.toList))
                  (k' := fun T => (codeE ty held (callE ty held hk' fn steps d) F.ntmps steps code T (absS s)).bind fun r => chk (not (isExit r.e)) ((resE ty r.T r.s F.results.toList).bind fun l => some (packR l, r.s))) (fun T => by
                    refine hcd steps T s _ _ fun e T s => ?_
                    show Le ((Bool.rec (motive := fun _ => R) (Option.rec (motive := fun _ => R) none (fun l => some (packR l, s)) (resK ty T s F.results.toList)) none (isExit e) : R).map absP) _
                    cases isExit e with
                    | true => exact Le.none _
                    | false =>
                      show Le ((Option.rec (motive := fun _ => R) none (fun l => some (packR l, s)) (resK ty T s F.results.toList) : R).map absP) ((resE ty T.get (absS s) F.results.toList).bind _)
                      rw [resK_eq]
                      cases resE ty T.get (absS s) F.results.toList with
                      | none => exact Le.none _
                      | some l => exact Le.refl _) l 0 .nil
                rw [get_nil] at h
                exact h
end
end Go.Proofs.YtjbnkokcbhfdgabGreatDoor.Ev
