/- The evaluator over code, regions and calls: as it is spoken of. -/
import Derived.Scope
import Derived.Test.YtjjfahgdmaikpaaGreatDoorXvC
namespace Go.Proofs.YtjjfahgdmaikpaaGreatDoor.Ev
open Go Go.RowKit
set_option linter.unusedVariables false
set_option linter.unusedSimpArgs false
set_option linter.unusedSectionVars false
set_option linter.unnecessarySimpa false
section
open Classical
def putE (nt : Nat) (T : TM) (dst : Option Tmp) (v : AV) : Option TM :=
  match dst with
  | none => some T
  | some d => chk (Nat.blt d nt) (some (upd T d (some v)))

def isWant (want : Bool) : AV → Bool
  | .v (.c (.bool b)) => beqB b want
  | _ => false

def wantE (ops : List Oper) (T : TM) (g : Option (Nat × Bool)) : Option Bool :=
  match g with
  | none => some true
  | some p => (ops[p.1]?).bind fun g => g.dst.bind fun t => (T t).bind fun v => some (isWant p.2 v)

structure Done where
  lo : Nat
  hi : Nat
  wr : Nat → Bool

/-- what the operation with these masks may not see of those done ahead -/
def hideD (m k : Nat) : Nat → List Done → Bool
  | _, [] => false
  | j, d :: l => (not (Nat.testBit m j) && ((Nat.ble d.lo k && Nat.blt k d.hi) || d.wr k)) || hideD m k (j + 1) l
/-- and of those behind it, as guessed -/
def hideG (i k : Nat) : Nat → List (Nat × (Nat → Bool)) → Bool
  | _, [] => false
  | j, p :: l => (Nat.blt i j && not (Nat.testBit p.1 i) && p.2 k) || hideG i k (j + 1) l
def forbE (f0 : Nat → Bool) (i m : Nat) (ds : List Done) (gs : List (Nat × (Nat → Bool))) : Nat → Bool := fun k => f0 k || hideD m k 0 ds || hideG i k 0 gs

/-- a load of what an operation writes that stands neither ahead nor behind: the same whichever comes first -/
structure Ld where
  i : Nat
  m : Nat
  b : Nat
  o : Nat
  t : Nat
  v : TV

structure DS where
  ds : List Done
  T : TM
  h : Nat → Option BK
  n : Nat
  hs : List (Nat → Option BK)
  lds : List Ld

def belowP (n : Nat) : List (Nat × Nat) → Bool
  | [] => true
  | p :: l => Nat.blt p.1 n && belowP n l
def belowC (n : Nat) : CV → Bool
  | .ptr b _ => Nat.blt b n
  | .slice b _ _ _ => Nat.blt b n
  | .func _ l => belowP n l
  | .iface _ b _ => Nat.blt b n
  | .map b => Nat.blt b n
  | .stail b _ _ => Nat.blt b n
  | _ => true
def belowL (n : Nat) : List CV → Bool
  | [] => true
  | c :: l => belowC n c && belowL n l
def belowT (n : Nat) : TV → Bool
  | .c v => belowC n v
  | .agg l => belowL n l
def sameCap : Cap → Cap → Bool
  | .fix a, .fix b => Nat.beq a b
  | .opn a, .opn b => Nat.beq a b
  | _, _ => false
def sameC : CV → CV → Bool
  | .bool a, .bool b => beqB a b
  | .int k a, .int k' b => beqKind k k' && ieq a b
  | .ptr a b, .ptr c d => Nat.beq a c && Nat.beq b d
  | .nil, .nil => true
  | .slice a b c d, .slice e f g h => Nat.beq a e && (Nat.beq b f && (Nat.beq c g && sameCap d h))
  | .snil, .snil => true
  | .nilf, .nilf => true
  | .nili, .nili => true
  | .iface a b c, .iface d e f => Nat.beq a d && (Nat.beq b e && Nat.beq c f)
  | .map a, .map b => Nat.beq a b
  | .nmap, .nmap => true
  | _, _ => false
def sameL : List CV → List CV → Bool
  | [], [] => true
  | a :: l, b :: m => sameC a b && sameL l m
  | _, _ => false
def sameT : TV → TV → Bool
  | .c a, .c b => sameC a b
  | .agg l, .agg m => sameL l m
  | _, _ => false
def loadH (ty : Nat → Option TI) (t : Nat) (x : Option BK) (o : Nat) : Option TV :=
  (x.bind plainB).bind fun bk => (ty t).bind fun ti => partE ti o bk.cells
def touches (d : Done) (k : Nat) : Bool := (Nat.ble d.lo k && Nat.blt k d.hi) || d.wr k
/-- the versions of a block that a load may meet -/
def loV (m : Nat) : Nat → List Bool → Nat
  | _, [] => 0
  | j, b :: l => match b && Nat.testBit m j with
    | true => Nat.max (j + 1) (loV m (j + 1) l)
    | false => loV m (j + 1) l
def hiV (i : Nat) : Nat → List Bool → List Nat → Nat
  | j, b :: l, m :: ms => match b && Nat.testBit m i with
    | true => j
    | false => hiV i (j + 1) l ms
  | j, _, _ => j
def sameO (v : TV) : Option TV → Bool
  | some u => sameT u v
  | none => false
def versOk (v : TV) (lo hi : Nat) : Nat → List (Option TV) → Bool
  | _, [] => true
  | j, x :: l => (match Nat.ble lo j && Nat.ble j hi with
    | true => sameO v x
    | false => true) && versOk v lo hi (j + 1) l
def ldOk (ty : Nat → Option TI) (ms : List Nat) (ds : List Done) (hs : List (Nat → Option BK)) (l : Ld) : Bool :=
  versOk l.v (loV l.m 0 (ds.map fun d => touches d l.b)) (hiV l.i 0 (ds.map fun d => touches d l.b) ms) 0 (hs.map fun h => loadH ty l.t (h l.b) l.o)
def ldsOk (ty : Nat → Option TI) (ms : List Nat) (ds : List Done) (hs : List (Nat → Option BK)) : List Ld → Bool
  | [] => true
  | l :: r => ldOk ty ms ds hs l && ldsOk ty ms ds hs r
def looseE (ty : Nat → Option TI) (op : Op) (T : TM) (f0 : Nat → Bool) (h : Nat → Option BK) (n i m : Nat) : Option Ld :=
  match op with
  | .load t a => (evc T a).bind fun v => (ptrOf v).bind fun p => chk (not (f0 p.1)) ((loadH ty t (h p.1) p.2).bind fun v => chk (belowT n v) (some ⟨i, m, p.1, p.2, t, v⟩))
  | _ => none

section
variable (ty : Nat → Option TI) (held : Nat → Bool) (call : CallF) (nt : Nat)

def draw1 (all : List Oper) (gs : List (Nat × (Nat → Bool))) (f0 : Nat → Bool) (o : Oper) (i m : Nat) (x : DS) : Option DS :=
  (wantE all x.T o.guard).bind fun w => match w with
    | false => (putE nt x.T o.dst (.tup [])).bind fun T => some ⟨x.ds ++ [⟨x.n, x.n, fun _ => false⟩], T, x.h, x.n, x.hs ++ [x.h], x.lds⟩
    | true => match opE ty held call o.op x.T ⟨x.h, x.n, forbE f0 i m x.ds gs, x.n, fun _ => false⟩ with
      | some p => (putE nt x.T o.dst p.1).bind fun T => some ⟨x.ds ++ [⟨x.n, p.2.n, p.2.w⟩], T, p.2.h, p.2.n, x.hs ++ [x.h], x.lds⟩
      | none => (looseE ty o.op x.T f0 x.h x.n i m).bind fun l => (putE nt x.T o.dst (.v l.v)).bind fun T => some ⟨x.ds ++ [⟨x.n, x.n, fun _ => false⟩], T, x.h, x.n, x.hs ++ [x.h], l :: x.lds⟩

def drawE (all : List Oper) (gs : List (Nat × (Nat → Bool))) (f0 : Nat → Bool) : List Oper → Nat → List Nat → DS → Option DS
  | [], _, _, x => some x
  | _ :: _, _, [], _ => none
  | o :: rest, i, m :: ms, x => (draw1 ty held call nt all gs f0 o i m x).bind fun x => drawE all gs f0 rest (i + 1) ms x

def opsE (all : List Oper) : List Oper → TM → St → Option (TM × St)
  | [], T, s => some (T, s)
  | o :: rest, T, s => (wantE all T o.guard).bind fun w => match w with
    | false => (putE nt T o.dst (.tup [])).bind fun T => opsE all rest T s
    | true => (opE ty held call o.op T s).bind fun p => (putE nt T o.dst p.1).bind fun T => opsE all rest T p.2

/-- masks: what stands before each operation -/
def maskOf (acc : List Nat) : List Edge → Nat → Nat
  | [], m => m
  | e :: l, m => match Region.binds .any e with
    | true => maskOf acc l (m ||| 2 ^ e.on ||| (acc[e.on]?).getD 0)
    | false => maskOf acc l m
def masks : List Oper → List Nat → List Nat
  | [], acc => acc
  | o :: l, acc => masks l (acc ++ [maskOf acc o.after.toList 0])

/-- what an operation sets, what it looks at: as bits -/
def dbit : Option Tmp → Nat
  | none => 0
  | some d => 2 ^ d
def maskL : List Tmp → Nat
  | [] => 0
  | t :: l => Nat.lor (2 ^ t) (maskL l)
def infoOf (ops : Array Oper) (o : Oper) : Nat × Nat := (dbit o.dst, maskL (o.looksAt ops))
def infos (ops : Array Oper) : List Oper → List (Nat × Nat)
  | [] => []
  | o :: l => infoOf ops o :: infos ops l
def apartF (x y : Nat × Nat) : Bool := Nat.beq (Nat.land x.1 (Nat.lor y.2 y.1)) 0 && Nat.beq (Nat.land y.1 x.2) 0
def apartsJ (o : Nat × Nat) (m : Nat) : Nat → List (Nat × Nat) → Bool
  | _, [] => true
  | j, p :: l => (Nat.beq (Nat.mod (Nat.shiftRight m j) 2) 1 || apartF p o) && apartsJ o m (j + 1) l
def aparts : List (Nat × Nat) → List Nat → List (Nat × Nat) → Bool
  | done, m :: ms, o :: l => apartsJ o m 0 done && aparts (done ++ [o]) ms l
  | _, _, [] => true
  | _, [], _ :: _ => false
/-- an order in which each operation comes behind all that its edges name -/
def topo (b : Region.Mode) (ops : List Oper) : List Nat → List Nat → Bool
  | [], seen => (List.range ops.length).all fun i => seen.contains i
  | i :: l, seen => (match ops[i]? with
      | some o => o.after.toList.all fun e => !Region.binds b e || seen.contains e.on
      | none => false) && topo b ops l (i :: seen)
/-- each edge that binds leads back: the order of the text is one -/
def backs (b : Region.Mode) : Nat → List Oper → Bool
  | _, [] => true
  | i, o :: l => (o.after.toList.all fun e => !Region.binds b e || Nat.blt e.on i) && backs b (i + 1) l
def ordE (b : Region.Mode) (ops : Array Oper) : Bool := backs b 0 ops.toList || topo b ops.toList (Region.linearise b ops 0) []
def regOk (ops : Array Oper) : Bool := aparts [] (masks ops.toList []) (infos ops ops.toList) && (ordE .any ops && (ordE .gc ops && ordE .text ops))

/-- all writes were guessed -/
def Guessed (ds : List Done) (gs : List (Nat × (Nat → Bool))) : Prop := ∀ (i : Nat) (d : Done), ds[i]? = some d → ∀ k, d.wr k = true → ∃ g : Nat × (Nat → Bool), gs[i]? = some g ∧ g.2 k = true

def guess0 (ms : List Nat) : List (Nat × (Nat → Bool)) := ms.map fun m => (m, fun _ => false)
def guess1 : List Nat → List Done → List (Nat × (Nat → Bool))
  | [], _ => []
  | m :: ms, [] => (m, fun _ => false) :: guess1 ms []
  | m :: ms, d :: ds => (m, d.wr) :: guess1 ms ds

def finD (s : St) (x : DS) : Option (TM × St) := some (x.T, ⟨x.h, x.n, s.forb, s.mark, fun k => s.w k || (Nat.blt k s.mark && x.ds.any fun d => d.wr k)⟩)
def drawG (gs : List (Nat × (Nat → Bool))) (ops : Array Oper) (T : TM) (s : St) : Option DS :=
  drawE ty held call nt ops.toList gs s.forb ops.toList 0 (masks ops.toList []) ⟨[], T, s.h, s.n, [], []⟩
def looseOk (ops : Array Oper) (x : DS) : Bool := ldsOk ty (masks ops.toList []) x.ds (x.hs ++ [x.h]) x.lds
noncomputable def regE (ops : Array Oper) (T : TM) (s : St) : Option (TM × St) :=
  chk (regOk ops) ((drawG ty held call nt (guess0 (masks ops.toList [])) ops T s).bind fun x =>
    match decide (Guessed x.ds (guess0 (masks ops.toList []))) && looseOk ty ops x with
    | true => finD s x
    | false => (drawG ty held call nt (guess1 (masks ops.toList []) x.ds) ops T s).bind fun y => chk (decide (Guessed y.ds (guess1 (masks ops.toList []) x.ds)) && looseOk ty ops y) (finD s y))

inductive Ex where
  | normal
  | exit (id : Nat)
  | ret

structure CS where
  e : Ex
  T : TM
  s : St

def isNormal : Ex → Bool
  | .normal => true
  | _ => false
def thenE (x : Option CS) (k : TM → St → Option CS) : Option CS := x.bind fun r => match isNormal r.e with
  | true => k r.T r.s
  | false => some r
def leaveB (id : Nat) : Ex → Ex
  | .exit k => match Nat.beq k id with | true => .normal | false => .exit k
  | e => e

noncomputable def codeE : Nat → Code → TM → St → Option CS
  | 0, _, _, _ => none
  | f + 1, c, T, s => match c with
    | .skip => some ⟨.normal, T, s⟩
    | .label _ => some ⟨.normal, T, s⟩
    | .region _ ops draw => (match draw with
        | false => opsE ty held call nt ops.toList ops.toList T s
        | true => regE ty held call nt ops T s).bind fun p => some ⟨.normal, p.1, p.2⟩
    | .seq a b => thenE (codeE f a T s) (codeE f b)
    | .cond c a b => (evc T c).bind fun v => (boolOf v).bind fun c => match c with
        | true => codeE f a T s
        | false => codeE f b T s
    | .block id b => (codeE f b T s).bind fun r => some ⟨leaveB id r.e, r.T, r.s⟩
    | .loop b => thenE (codeE f b T s) (codeE f (.loop b))
    | .scope b => codeE f b T s
    | .exit id => some ⟨.exit id, T, s⟩
    | .ret => some ⟨.ret, T, s⟩
    | _ => none

def res1 (T : TM) (s : St) : ResultVar → Option TV
  | .tmp t => (T t).bind tOf
  | .cell a t => (T a).bind fun v => (cOf v).bind fun v => (ptrOf v).bind fun p => loadAt ty t s p.1 p.2
def resE (T : TM) (s : St) : List ResultVar → Option (List TV)
  | [] => some []
  | r :: l => (res1 ty T s r).bind fun v => (resE T s l).bind fun l => some (v :: l)
def packR : List TV → AV
  | [v] => .v v
  | l => .tup l
def enterE : List AV → Nat → TM → TM
  | [], _, T => T
  | v :: l, i, T => enterE l (i + 1) (upd T i (some v))
def isExit : Ex → Bool
  | .exit _ => true
  | _ => false
def fnOk (F : Func) : Bool := F.body.isSome && !(F.name == "runtime.NumGoroutine")
def orE {α : Type} (x y : Option α) : Option α := match x with
  | some r => some r
  | none => y
/-- 'hk' answers for the functions that are shown by hand -/
noncomputable def callE (hk : CallF) (fn : Nat → Option Func) (steps : Nat) : Nat → CallF
  | 0, _, _, _ => none
  | d + 1, f, args, s => orE (hk f args s) ((fn f).bind fun F => F.body.bind fun code => chk (fnOk F) (chk (Nat.ble args.length F.ntmps)
      ((codeE ty held (callE hk fn steps d) F.ntmps steps code (enterE args 0 fun _ => none) s).bind fun r =>
        chk (not (isExit r.e)) ((resE ty r.T r.s F.results.toList).bind fun l => some (packR l, r.s)))))
end
end
structure AR (φ : Mp) (nt : Nat) (T : TM) (a : Act) : Prop where
  size : a.tmps.size = nt
  defers : a.defers = []
  tmp : ∀ t v, T t = some v → ∃ u, a.tmps[t]? = some u ∧ VA φ v u

theorem AR.tr {φ : Mp} {nt : Nat} {T : TM} {a : Act} (h : AR φ nt T a) : TR φ T a.eval := by
  intro x v hv
  cases x with
  | tmp t =>
    obtain ⟨u, h1, h2⟩ := h.tmp t v hv
    have : a.eval (.tmp t) = u := by simp [Act.eval, h1]
    rw [this]; exact h2
  | const c => exact absA_ok hv
  | func f =>
    simp only [ev, Option.some.injEq] at hv
    subst hv
    exact ⟨[], trivial, rfl⟩
  | global g => cases hv

theorem AR.mono {φ φ' : Mp} (he : Ext φ φ') {nt : Nat} {T : TM} {a : Act} (h : AR φ nt T a) : AR φ' nt T a :=
  ⟨h.size, h.defers, fun t v hv => by obtain ⟨u, h1, h2⟩ := h.tmp t v hv; exact ⟨u, h1, VA.mono he h2⟩⟩

theorem AR.put {φ : Mp} {nt : Nat} {T T' : TM} {a : Act} {dst : Option Tmp} {v : AV} {u : Value} (h : AR φ nt T a) (hp : putE nt T dst v = some T') (hv : VA φ v u) : AR φ nt T' (a.put dst u) := by
  cases dst with
  | none => simp only [putE, Option.some.injEq] at hp; subst hp; exact h
  | some d =>
    simp only [putE, chk_some, Nat.blt_eq] at hp
    obtain ⟨h1, h2⟩ := hp
    cases h2
    refine ⟨by simp [Act.put, h.size], h.defers, fun t v' hv' => ?_⟩
    unfold upd at hv'
    split at hv'
    · rename_i e; subst e; cases hv'
      exact ⟨u, by simp [Act.put, h.size, h1], hv⟩
    · rename_i e
      obtain ⟨u', h3, h4⟩ := h.tmp t v' hv'
      exact ⟨u', by simp only [Act.put]; rw [Array.getElem?_setIfInBounds_ne (Ne.symm e)]; exact h3, h4⟩

theorem VA_bool {φ : Mp} {v : AV} {b : Bool} (h : VA φ v (.bool b)) : v = .v (.c (.bool b)) := by
  cases v with
  | v t => cases t with
    | c c => cases c with
      | bool b' => have h' : Value.bool b = .bool b' := h; cases h'; rfl
      | slice b o n cp => cases cp <;> (obtain ⟨q, _, h⟩ := h; cases h)
      | ptr b o => obtain ⟨q, _, h⟩ := h; cases h
      | iface t b o => obtain ⟨q, _, h⟩ := h; cases h
      | map b => obtain ⟨q, _, h⟩ := h; cases h
      | stail b d sz => obtain ⟨q, _, a, _, h⟩ := h; cases h
      | func f l => obtain ⟨q, _, h⟩ := h; cases h
      | _ => (have h' : Value.bool b = _ := h; cases h')
    | agg l => obtain ⟨q, _, h⟩ := h; cases h
  | tup l => obtain ⟨q, _, h⟩ := h; cases h

theorem beqB_eq (a b : Bool) : beqB a b = (a == b) := by cases a <;> cases b <;> rfl

theorem want_ok {φ : Mp} {T : TM} {a : Act} {ops : Array Oper} {o : Oper} {b : Bool} (ht : ∀ j w g t, o.guard = some (j, w) → ops[j]? = some g → g.dst = some t → ∀ v, T t = some v → ∃ u, a.tmps[t]? = some u ∧ VA φ v u)
    (h : wantE ops.toList T o.guard = some b) : Region.wanted o (yielded ops a.tmps) = b := by
  unfold Region.wanted
  cases hg : o.guard with
  | none => rw [hg] at h; simp only [wantE, Option.some.injEq] at h; exact h
  | some p =>
    obtain ⟨j, want⟩ := p
    rw [hg] at h
    simp only [wantE, Option.bind_eq_some_iff] at h
    obtain ⟨g, h1, t, h2, v, h3, h4⟩ := h
    have h1' : ops[j]? = some g := by simpa using h1
    obtain ⟨u, h5, h6⟩ := ht j want g t hg h1' h2 v h3
    cases h4
    have hy : yielded ops a.tmps j = match u with | .bool b => some b | _ => none := by
      simp only [yielded, h1', h2, h5, Option.bind_some]
      cases u <;> rfl
    show (yielded ops a.tmps j == some want) = _
    rw [hy]
    by_cases hb : ∃ b', v = .v (.c (.bool b'))
    · obtain ⟨b', rfl⟩ := hb
      have h6 : u = .bool b' := h6
      subst h6
      show (some b' == some want) = beqB b' want
      rw [beqB_eq]
      cases b' <;> cases want <;> rfl
    · have h7 : isWant want v = false := by
        unfold isWant
        split
        · rename_i b'; exact absurd ⟨b', rfl⟩ hb
        · rfl
      rw [h7]
      cases u with
      | bool b' => exact absurd ⟨b', VA_bool h6⟩ hb
      | _ => rfl

section
variable {P : Program} {ty : Nat → Option TI} {held : Nat → Bool} {call : CallF} {nt : Nat}

theorem undef_va (φ : Mp) : VA φ (.tup []) undef := ⟨[], trivial, rfl⟩

theorem ops_wp {K : Nat → Option Obj} (E : Env P ty held) (hc : CallOk P K call) {all : Array Oper} {Q : Exit → Act → World → Prop} : ∀ {rest : List Oper} {T T' : TM} {s s' : St} {φ : Mp} {a : Act} {w : World},
    opsE ty held call nt all.toList rest T s = some (T', s') → Rel φ s w → Kept K φ w → AR φ nt T a → (∀ φ' a' w', Out φ s w φ' s' w' → AR φ' nt T' a' → Q .normal a' w') → wpList P all Q rest a w
  | [], T, T', s, s', φ, a, w, h, hr, hK, ha, hk => by
    simp only [opsE, Option.some.injEq, Prod.mk.injEq] at h
    obtain ⟨rfl, rfl⟩ := h
    exact hk φ a w (Out.refl hr) ha
  | o :: rest, T, T', s, s', φ, a, w, h, hr, hK, ha, hk => by
    simp only [opsE, Option.bind_eq_some_iff] at h
    obtain ⟨b, h1, h2⟩ := h
    have hw := want_ok (ops := all) (o := o) (fun j w g t _ _ _ v hv => ha.tmp t v hv) h1
    unfold wpList
    rw [hw]
    cases b with
    | false =>
      simp only [Option.bind_eq_some_iff] at h2
      obtain ⟨T1, h3, h4⟩ := h2
      simp only [Bool.false_eq_true, if_false]
      exact ops_wp E hc h4 hr hK (ha.put h3 (undef_va φ)) hk
    | true =>
      simp only [Option.bind_eq_some_iff] at h2
      obtain ⟨p, h3, T1, h4, h5⟩ := h2
      simp only [if_true]
      refine .inl (op_wp E hc hr hK ha.tr (v := p.1) (s' := p.2) h3 fun φ' w' u ho hv => ?_)
      exact ops_wp E hc h5 ho.rel (hK.out ho) ((ha.mono ho.ext).put h4 hv) fun φ'' a' w'' ho' ha' => hk φ'' a' w'' (ho.trans hr ho') ha'

theorem wp_loop_n {c : Code} {Q : Exit → Act → World → Prop} (J : Nat → Act → World → Prop)
    (round : ∀ n a w, J n a w → c.wp P (Exit.then (fun a' w' => ∃ m, m < n ∧ J m a' w') Q) a w) (n : Nat) (a : Act) (w : World) (h0 : J n a w) : (Code.loop c).wp P Q a w := by
  intro b k cs
  have key : ∀ n a w, J n a w → ∃ e a' w', Q e a' w' ∧ Arrives P (lone (b.at a (.code c :: .inLoop c :: k)) cs w) b k cs e a' w' := by
    intro n
    induction n using Nat.strongRecOn with
    | _ n ih =>
      intro a w hI
      obtain ⟨e, a₁, w₁, hq, harr⟩ := round n a w hI b (.inLoop c :: k) cs
      cases e with
      | normal =>
        obtain ⟨m, hlt, hI₁⟩ := hq
        obtain ⟨e₂, a₂, w₂, hq₂, harr₂⟩ := ih m hlt a₁ w₁ hI₁
        exact ⟨e₂, a₂, w₂, hq₂, .of_steps (Steps.trans harr (.one step_inLoop)) harr₂⟩
      | exit id => exact ⟨_, a₁, w₁, hq, .pass (x := .inLoop c) rfl (fun _ _ => .inl (by simp)) harr⟩
      | goto l => exact ⟨_, a₁, w₁, hq, .pass (x := .inLoop c) rfl (fun _ _ => .inl (by simp)) harr⟩
      | ret => exact ⟨_, a₁, w₁, hq, .pass (x := .inLoop c) rfl (fun _ _ => .inl (by simp)) harr⟩
      | panic ch => exact ⟨_, a₁, w₁, hq, .pass (x := .inLoop c) rfl (fun _ _ => .inl (by simp)) harr⟩
      | outgrown => exact ⟨_, a₁, w₁, hq, .pass (x := .inLoop c) rfl (fun _ _ => .inl (by simp)) harr⟩
  obtain ⟨e, a', w', hq, harr⟩ := key n a w h0
  exact ⟨e, a', w', hq, .of_steps (.one step_loop) harr⟩

def exOf : Ex → Exit
  | .normal => .normal
  | .exit id => .exit id
  | .ret => .ret

/-- drawn regions: see EvD -/
def RegSound (P : Program) (K : Nat → Option Obj) (ty : Nat → Option TI) (held : Nat → Bool) (call : CallF) (nt : Nat) : Prop :=
  ∀ (id : Nat) (ops : Array Oper) (T T' : TM) (s s' : St) (φ : Mp) (a : Act) (w : World) (Q : Exit → Act → World → Prop), regE ty held call nt ops T s = some (T', s') → Rel φ s w → Kept K φ w → AR φ nt T a →
    (∀ φ' a' w', Out φ s w φ' s' w' → AR φ' nt T' a' → Q .normal a' w') → (Code.region id ops true).wp P Q a w

theorem code_wp {K : Nat → Option Obj} (E : Env P ty held) (hc : CallOk P K call) (hd : RegSound P K ty held call nt) : ∀ (f : Nat) {c : Code} {T : TM} {s : St} {r : CS} {φ : Mp} {a : Act} {w : World} {Q : Exit → Act → World → Prop},
    codeE ty held call nt f c T s = some r → Rel φ s w → Kept K φ w → AR φ nt T a → (∀ φ' a' w', Out φ s w φ' r.s w' → AR φ' nt r.T a' → Q (exOf r.e) a' w') → c.wp P Q a w := by
  intro f
  induction f using Nat.strongRecOn with
  | _ f0 ihs =>
    cases f0 with
    | zero => intro c T s r φ a w Q h; simp [codeE] at h
    | succ f =>
    have ih := fun {c T s r φ a w Q} => @ihs f (Nat.lt_succ_self f) c T s r φ a w Q
    intro c T s r φ a w Q h hr hK ha hk
    have thenOk : ∀ {x : Code} {k : TM → St → Option CS} {Q' : Exit → Act → World → Prop}, thenE (codeE ty held call nt f x T s) k = some r →
        (∀ φ' a' w' T1 s1, Out φ s w φ' s1 w' → AR φ' nt T1 a' → k T1 s1 = some r → Q' .normal a' w') → (∀ id a w, Q (.exit id) a w → Q' (.exit id) a w) → (∀ a w, Q .ret a w → Q' .ret a w) → x.wp P Q' a w := by
      intro x k Q' h1 h2 h3 h4
      simp only [thenE, Option.bind_eq_some_iff] at h1
      obtain ⟨r1, g1, g2⟩ := h1
      refine ih g1 hr hK ha fun φ' a' w' ho ha' => ?_
      obtain ⟨e, T1, s1⟩ := r1
      cases e with
      | normal => exact h2 φ' a' w' T1 s1 ho ha' g2
      | exit id => simp only [isNormal, Option.some.injEq] at g2; subst g2; exact h3 id a' w' (hk φ' a' w' ho ha')
      | ret => simp only [isNormal, Option.some.injEq] at g2; subst g2; exact h4 a' w' (hk φ' a' w' ho ha')
    cases c with
    | skip => simp only [codeE, Option.some.injEq] at h; subst h; exact wp_skip (hk φ a w (Out.refl hr) ha)
    | label l => simp only [codeE, Option.some.injEq] at h; subst h; exact wp_label (hk φ a w (Out.refl hr) ha)
    | region id ops draw =>
      simp only [codeE, Option.bind_eq_some_iff] at h
      obtain ⟨p, h1, h2⟩ := h
      cases h2
      cases draw with
      | false => exact wp_region_list (ops_wp E hc h1 hr hK ha hk)
      | true => exact hd id ops T p.1 s p.2 φ a w Q h1 hr hK ha hk
    | seq x y =>
      simp only [codeE] at h
      refine wp_seq (thenOk h (fun φ' a' w' T1 s1 ho ha' hk' => ?_) (fun _ _ _ h => h) (fun _ _ h => h))
      exact ih hk' ho.rel (hK.out ho) ha' fun φ'' a'' w'' ho' ha'' => hk φ'' a'' w'' (ho.trans hr ho') ha''
    | cond c x y =>
      simp only [codeE, Option.bind_eq_some_iff] at h
      obtain ⟨v, h1, b, h2, h3⟩ := h
      have hv := ha.tr.c h1
      rw [boolOf_some h2] at hv
      have hv : a.eval c = .bool b := hv
      cases b with
      | true => exact wp_cond_true hv (ih h3 hr hK ha hk)
      | false => exact wp_cond_false hv (ih h3 hr hK ha hk)
    | block id x =>
      simp only [codeE, Option.bind_eq_some_iff] at h
      obtain ⟨r1, h1, h2⟩ := h
      cases h2
      refine wp_block (ih h1 hr hK ha fun φ' a' w' ho ha' => ?_)
      have hk' := hk φ' a' w' ho ha'
      obtain ⟨e, T1, s1⟩ := r1
      cases e with
      | normal => exact hk'
      | ret => exact hk'
      | exit k =>
        simp only [leaveB] at hk'
        show (if k = id then Q .normal a' w' else Q (.exit k) a' w')
        cases hb : Nat.beq k id with
        | true => rw [hb] at hk'; rw [if_pos (Nat.eq_of_beq_eq_true hb)]; exact hk'
        | false => rw [hb] at hk'; rw [if_neg (beq_ne hb)]; exact hk'
    | loop x =>
      refine wp_loop_n (fun n a w => ∃ T s φ, codeE ty held call nt n (.loop x) T s = some r ∧ Rel φ s w ∧ Kept K φ w ∧ AR φ nt T a ∧ (∀ φ' a' w', Out φ s w φ' r.s w' → AR φ' nt r.T a' → Q (exOf r.e) a' w') ∧ n ≤ f + 1) ?_ (f + 1) a w ⟨T, s, φ, h, hr, hK, ha, hk, Nat.le_refl _⟩
      rintro n a w ⟨T, s, φ, h, hr, hK, ha, hk, hn⟩
      cases n with
      | zero => simp [codeE] at h
      | succ n =>
        simp only [codeE, thenE, Option.bind_eq_some_iff] at h
        obtain ⟨r1, g1, g2⟩ := h
        refine ihs n (by omega) g1 hr hK ha fun φ' a' w' ho ha' => ?_
        obtain ⟨e, T1, s1⟩ := r1
        cases e with
        | normal => exact ⟨n, Nat.lt_succ_self n, T1, s1, φ', g2, ho.rel, hK.out ho, ha', fun φ'' a'' w'' ho' ha'' => hk φ'' a'' w'' (ho.trans hr ho') ha'', by omega⟩
        | exit id => simp only [isNormal, Option.some.injEq] at g2; subst g2; exact hk φ' a' w' ho ha'
        | ret => simp only [isNormal, Option.some.injEq] at g2; subst g2; exact hk φ' a' w' ho ha'
    | scope x =>
      simp only [codeE] at h
      refine wp_scope_straight (ih h hr hK ha fun φ' a' w' ho ha' => ?_)
      have hk' := hk φ' a' w' ho ha'
      obtain ⟨e, T1, s1⟩ := r
      cases e <;> exact hk'
    | exit id => simp only [codeE, Option.some.injEq] at h; subst h; exact wp_exit (hk φ a w (Out.refl hr) ha)
    | ret => simp only [codeE, Option.some.injEq] at h; subst h; exact wp_ret (hk φ a w (Out.refl hr) ha)
    | _ => simp [codeE] at h

theorem enter_ok {φ : Mp} {n : Nat} : ∀ {l : List AV} {vs : List Value} {i : Nat} {T : TM} {tmps : Array Value}, VAs φ l vs → i + l.length ≤ n → tmps.size = n →
    (∀ t v, T t = some v → ∃ u, tmps[t]? = some u ∧ VA φ v u) → (∀ j u, vs[j]? = some u → tmps[i + j]? = some u) →
    ∀ t v, enterE l i T t = some v → ∃ u, tmps[t]? = some u ∧ VA φ v u
  | [], [], i, T, tmps, _, _, _, h, _ => h
  | c :: l, v :: vs, i, T, tmps, ⟨h1, h2⟩, hn, hs, h, hv => by
    simp only [List.length_cons] at hn
    show ∀ t v, enterE l (i + 1) (upd T i (some c)) t = some v → _
    refine enter_ok h2 (by omega) hs (fun t x hx => ?_) (fun j u hu => ?_)
    · unfold upd at hx
      split at hx
      · rename_i e; subst e; cases hx
        exact ⟨v, by simpa using hv 0 v rfl, h1⟩
      · exact h t x hx
    · have := hv (j + 1) u (by simpa using hu)
      rw [← this]; congr 1; omega

def resV (tmps : Array Value) : ResultVar → Sem Value
  | .tmp t => pure (tmps.getD t undef)
  | .cell x t => do loadVar t (← asAddr (tmps.getD x undef))

theorem res1_ok (E : Env P ty held) {φ : Mp} {s : St} {w : World} {T : TM} {a : Act} (hr : Rel φ s w) (ha : AR φ nt T a) {rv : ResultVar} {v : TV} (h : res1 ty T s rv = some v) :
    ∃ u, VT φ v u ∧ (resV a.tmps rv).run P w = .ok u w := by
  unfold res1 at h
  split at h
  · rename_i t
    simp only [Option.bind_eq_some_iff] at h
    obtain ⟨x, h1, h2⟩ := h
    obtain ⟨u, h3, h4⟩ := ha.tmp t x h1
    unfold tOf at h2
    split at h2
    · cases h2; exact ⟨u, h4, by simp [resV, h3]⟩
    · cases h2
  · rename_i x t
    simp only [Option.bind_eq_some_iff] at h
    obtain ⟨y, h1, c, h2, p, h3, h4⟩ := h
    obtain ⟨u, h5, h6⟩ := ha.tmp x y h1
    unfold cOf at h2
    split at h2
    · cases h2
      have h6 : VC φ _ u := h6
      rw [ptrOf_some h3] at h6
      obtain ⟨q, hq, h6⟩ := h6
      obtain ⟨z, h7, h8⟩ := loadAt_ok E hr hq h4
      refine ⟨z, h7, ?_⟩
      have : a.tmps.getD x undef = u := by simp [h5]
      show (do loadVar t (← asAddr (a.tmps.getD x undef)) : Sem Value).run P w = _
      rw [this, h6]
      have h8' := h8
      simp only [Instr.loadAt, Instr.sureAddr, Sem.run_bind, Sem.run_pure, Result.andThen_ok] at h8'
      simp only [Sem.run_bind, asAddr, Sem.run_pure, Result.andThen_ok]
      exact h8'
    · cases h2

theorem resE_ok (E : Env P ty held) {φ : Mp} {s : St} {w : World} {T : TM} {a : Act} (hr : Rel φ s w) (ha : AR φ nt T a) : ∀ {l : List ResultVar} {r : List TV}, resE ty T s l = some r →
    ∃ us, VTs φ r us ∧ (l.mapM (resV a.tmps)).run P w = .ok us w
  | [], r, h => by simp only [resE, Option.some.injEq] at h; subst h; exact ⟨[], trivial, rfl⟩
  | rv :: l, r, h => by
    simp only [resE, Option.bind_eq_some_iff] at h
    obtain ⟨v, h1, r', h2, h3⟩ := h
    cases h3
    obtain ⟨u, g1, g2⟩ := res1_ok E hr ha h1
    obtain ⟨us, g3, g4⟩ := resE_ok E hr ha h2
    refine ⟨u :: us, ⟨g1, g3⟩, ?_⟩
    rw [List.mapM_cons, Sem.run_bind, g2]
    simp only [Result.andThen_ok]
    rw [Sem.run_bind, g4]
    rfl

theorem results_ok (E : Env P ty held) {φ : Mp} {s : St} {w : World} {T : TM} {a : Act} (hr : Rel φ s w) (ha : AR φ nt T a) {F : Func} {r : List TV} (h : resE ty T s F.results.toList = some r) :
    ∃ u, VA φ (packR r) u ∧ (results F a.tmps).run P w = .ok u w := by
  obtain ⟨us, g1, g2⟩ := resE_ok E hr ha h
  refine ⟨(if h : us.toArray.size = 1 then us.toArray[0] else .tuple us.toArray), ?_, ?_⟩
  · cases r with
    | nil => cases us with
      | nil => exact ⟨[], trivial, rfl⟩
      | cons _ _ => exact g1.elim
    | cons c r => cases us with
      | nil => exact g1.elim
      | cons u us => cases r with
        | nil => cases us with
          | nil => exact g1.1
          | cons _ _ => exact g1.2.elim
        | cons c' r => cases us with
          | nil => exact g1.2.elim
          | cons u' us =>
            simp only [packR]
            rw [dif_neg (by simp)]
            exact ⟨_, g1, rfl⟩
  · have hres : results F a.tmps = (do let vs ← F.results.mapM (resV a.tmps); pure (if h : vs.size = 1 then vs[0] else .tuple vs)) := by
      unfold results
      congr 2
    rw [hres, Sem.run_bind, Array.mapM_eq_mapM_toList, run_map, g2]
    rfl

theorem call_ok_step {K : Nat → Option Obj} (E : Env P ty held) {fn : Nat → Option Func} (hfn : ∀ f F, fn f = some F → P.funcs[f]? = some F) (steps : Nat) {d : Nat} {hk : CallF} (hhk : CallOk P K hk) (ih : CallOk P K (callE ty held hk fn steps d)) (hd : ∀ nt, RegSound P K ty held (callE ty held hk fn steps d) nt) :
    CallOk P K (callE ty held hk fn steps (d + 1)) := by
  intro f l s v s' h φ w args hr hK hv
  simp only [callE] at h
  cases hh : hk f l s with
  | some r => rw [hh] at h; cases h; exact hhk f l s v s' hh φ w args hr hK hv
  | none =>
  rw [hh] at h
  simp only [orE, Option.bind_eq_some_iff, chk_some, Nat.ble_eq] at h
  obtain ⟨F, h1, code, h2, h3, h4, r, h5, h6, lr, h7, h8⟩ := h
  cases h8
  have hF := hfn f F h1
  simp only [fnOk, Bool.and_eq_true, Bool.not_eq_true'] at h3
  have hbn : F.body.isNone = false := by rw [h2]; rfl
  refine ⟨?_, ?_⟩
  · have hne : F.name ≠ "runtime.NumGoroutine" := by have := h3.2; intro e; rw [e] at this; simp at this
    simp [callFunc, hF, hne, h2]
  · have hl := hv.length
    have hlen : args.size ≤ F.ntmps := by simp at hl; omega
    have ha : AR φ F.ntmps (enterE l 0 fun _ => none) { tmps := args ++ Array.replicate (F.ntmps - args.size) undef, defers := [] } := by
      refine ⟨by simp; omega, rfl, ?_⟩
      refine enter_ok (n := F.ntmps) hv (by omega) (by simp; omega) (fun t v h => by cases h) (fun j u hu => ?_)
      have hj : j < args.toList.length := (List.getElem?_eq_some_iff.1 hu).1
      simp only [Nat.zero_add]
      rw [Array.getElem?_append_left (by simpa using hj)]
      simpa using hu
    refine calls_of_wp hF h2 (code_wp E ih (hd _) steps h5 hr hK ha fun φ' a' w' ho ha' => ?_)
    obtain ⟨u, g1, g2⟩ := results_ok E ho.rel ha' h7
    have hfin : bodyPost P F (fun e w' => ∃ φ' u, Out φ s w φ' r.s w' ∧ VA φ' (packR lr) u ∧ e = .returned u) .normal a' w' := ⟨ha'.defers, u, g2, φ', u, ho, g1, rfl⟩
    cases he : r.e with
    | normal => exact hfin
    | ret => exact hfin
    | exit id => rw [he] at h6; cases h6

end
section
open Classical
def Top (s : St) : Prop := ∀ k, s.n ≤ k → s.h k = none

theorem Top.lt {s : St} (h : Top s) {k : Nat} {B : BK} (hk : s.get k = some B) : k < s.n := by
  rw [St.get_some] at hk
  rcases Nat.lt_or_ge k s.n with h1 | h1
  · exact h1
  · rw [h k h1] at hk; cases hk.2

theorem Upd.top {s s' : St} (h : Upd s s') (ht : Top s) : Top s' := h.high ht

theorem overE_upd {s s' : St} {b at_ : Nat} {new : List CV} {v r : CV} (ht : Top s) (h : overE s b at_ new v = some (r, s')) : Upd s s' := by
  simp only [overE, Option.bind_eq_some_iff] at h
  obtain ⟨bk, hb, cs, h1, s1, h2, h3⟩ := h
  cases h3
  exact put_upd h2 (cget_some.1 hb).1 (ht.lt (cget_some.1 hb).1)

theorem putX_upd {s s' : St} {b : Nat} {x y : XK} (ht : Top s) (hb : s.xget b = some x) (h : putX s b y = some s') : Upd s s' := by
  obtain ⟨B, h1, _⟩ := xget_some.1 hb
  exact put_upd h h1 (ht.lt h1)

theorem grown_upd {s s' : St} {e size n : Nat} {cs : List CV} {r : CV} (h : grown s e size n cs = some (r, s')) : Upd s s' := by
  simp only [grown, Option.bind_eq_some_iff] at h
  obtain ⟨q, h1, h2⟩ := h
  cases h2
  exact new_upd (b := q.1) (s' := q.2) h1

theorem regrow_upd {s s' : St} {e size d n k b : Nat} {new : List CV} {bk : BK} {r : CV} (ht : Top s) (hb : s.cget b = some bk) (h : regrow s e size d n k b new bk = some (r, s')) : Upd s s' := by
  simp only [regrow, Option.bind_eq_some_iff] at h
  obtain ⟨_, _, _, _, s1, h1, h⟩ := h
  exact (put_upd h1 (cget_some.1 hb).1 (ht.lt (cget_some.1 hb).1)).trans (grown_upd h)

theorem append_upd {s s' : St} {e size bytes : Nat} {x y r : CV} (ht : Top s) (h : appendE s e size bytes x y = some (r, s')) : Upd s s' := by
  simp only [appendE, chk_some, Option.bind_eq_some_iff] at h
  obtain ⟨_, _, new, _, k, _, n, _, _, h⟩ := h
  unfold appTo at h
  split at h
  · split at h
    · cases h; exact Upd.refl s
    · exact grown_upd h
  · split at h
    · exact overE_upd ht h
    · simp only [Option.bind_eq_some_iff] at h
      obtain ⟨_, _, h⟩ := h
      exact grown_upd h
  · simp only [chk_some, Option.bind_eq_some_iff] at h
    obtain ⟨_, bk, hb, h⟩ := h
    simp only [appOpn, chk_some] at h
    obtain ⟨_, _, h⟩ := h
    split at h
    · exact overE_upd ht h
    · exact regrow_upd ht hb h
  · split at h
    · cases h; exact Upd.refl s
    · simp only [chk_some, Option.bind_eq_some_iff] at h
      obtain ⟨_, bk, hb, _, _, h⟩ := h
      exact regrow_upd ht hb h
  · cases h

theorem newPtr_upd {s s' : St} {t : Nat} {cs : List CV} {v : AV} (h : newPtr s t cs = some (v, s')) : Upd s s' := by
  simp only [newPtr, Option.bind_eq_some_iff] at h
  obtain ⟨q, h1, h2⟩ := h
  cases h2
  exact new_upd (b := q.1) (s' := q.2) h1

section
variable {ty : Nat → Option TI} {held : Nat → Bool} {call : CallF} {T : TM} {s s' : St} {nt : Nat}

def CallUpd (call : CallF) : Prop := ∀ f l s v s', call f l s = some (v, s') → Top s → Upd s s'

theorem blt_upd {b : Builtin} {ts : List Nat} {args : List Operand} {r : CV} (ht : Top s) (h : bltE ty b ts args T s = some (r, s')) : Upd s s' := by
  unfold bltE at h
  split at h
  · split at h
    · simp only [lenE, Option.bind_eq_some_iff, chk_some] at h
      obtain ⟨_, _, _, _, _, _, _, h⟩ := h
      cases h; exact Upd.refl s
    · cases h
  · split at h
    · simp only [Option.bind_eq_some_iff] at h
      obtain ⟨x, _, y, _, h⟩ := h
      unfold blt2 at h
      split at h
      · simp only [Option.bind_eq_some_iff, chk_some] at h
        obtain ⟨_, _, _, _, _, _, _, _, h⟩ := h
        exact append_upd ht h
      · simp only [Option.bind_eq_some_iff, copyE, chk_some] at h
        obtain ⟨_, _, _, _, _, _, _, _, _, h⟩ := h
        unfold copyTo at h
        split at h
        · exact overE_upd ht h
        · cases h; exact Upd.refl s
      · simp only [Option.bind_eq_some_iff] at h
        obtain ⟨_, _, h⟩ := h
        cases h; exact Upd.refl s
      · simp only [Option.bind_eq_some_iff] at h
        obtain ⟨_, _, h⟩ := h
        cases h; exact Upd.refl s
      · cases h
    · cases h
  · cases h

theorem pkM_upd {x : Option CV} {v : AV} (h : pkM s x = some (v, s')) : Upd s s' := by obtain ⟨_, _, _, rfl⟩ := pkM_some.1 h; exact Upd.refl _
theorem pkT_upd {x : Option TV} {v : AV} (h : pkT s x = some (v, s')) : Upd s s' := by obtain ⟨_, _, _, rfl⟩ := pkT_some.1 h; exact Upd.refl _
theorem pkA_upd {x : Option AV} {v : AV} (h : pkA s x = some (v, s')) : Upd s s' := by obtain ⟨_, rfl⟩ := pkA_some.1 h; exact Upd.refl _

theorem bltM_upd {b : Builtin} {ts : List Nat} {args : List Operand} {v : AV} (ht : Top s) (h : bltM ty held b ts args T s = some (v, s')) : Upd s s' := by
  unfold bltM at h
  split at h
  · split at h
    · simp only [lenM, Option.bind_eq_some_iff] at h
      obtain ⟨_, _, _, _, _, _, h⟩ := h
      cases h; exact Upd.refl s
    · simp only [clearE, Option.bind_eq_some_iff] at h
      obtain ⟨_, _, _, _, _, _, _, _, h⟩ := h
      split at h
      · cases h; exact Upd.refl s
      · rw [chk_some] at h
        obtain ⟨_, h⟩ := h
        unfold clearS at h
        split at h
        · simp only [Option.bind_eq_some_iff] at h
          obtain ⟨⟨v1, s1⟩, h1, h2⟩ := h
          cases h2
          exact overE_upd ht h1
        · cases h
    · cases h
  · split at h
    · simp only [delE, Option.bind_eq_some_iff, chk_some] at h
      obtain ⟨_, _, _, _, _, _, p, hp, _, _, _, _, _, s1, h1, h2⟩ := h
      cases h2
      exact putX_upd ht (mget_some hp) h1
    · cases h
  · cases h

theorem mapOp_upd (ht : Top s) {op : Op} {v : AV} (h : mapOp ty held op T s = some (v, s')) : Upd s s' := by
  cases op with
  | makeMap t r =>
    obtain ⟨c, h', rfl⟩ := pkS_some.1 h
    simp only [makeE, Option.bind_eq_some_iff] at h'
    obtain ⟨_, _, _, _, q, h1, h2⟩ := h'
    cases h2
    exact new_upd (b := q.1) (s' := q.2) h1
  | lookup t x k ok =>
    simp only [mapOp, lookE, Option.bind_eq_some_iff, chk_some] at h
    obtain ⟨_, _, _, _, _, _, _, _, _, r, _, h⟩ := h
    cases r with
    | some r => cases ok <;> (cases h; exact Upd.refl s)
    | none =>
      simp only [Option.bind_eq_some_iff] at h
      obtain ⟨_, _, h⟩ := h
      cases ok <;> (cases h; exact Upd.refl s)
  | mapUpdate t m k x =>
    simp only [mapOp, updE, Option.bind_eq_some_iff, chk_some] at h
    obtain ⟨_, _, _, _, _, _, p, hp, _, _, _, _, _, _, _, s1, h1, h2⟩ := h
    cases h2
    exact putX_upd ht (mget_some hp) h1
  | insert t m k x =>
    simp only [mapOp, updE, Option.bind_eq_some_iff, chk_some] at h
    obtain ⟨_, _, _, _, _, _, p, hp, _, _, _, _, _, _, _, s1, h1, h2⟩ := h
    cases h2
    exact putX_upd ht (mget_some hp) h1
  | mapEntry t m k =>
    simp only [mapOp, entE, Option.bind_eq_some_iff, chk_some] at h
    obtain ⟨_, _, _, _, _, _, p, hp, _, _, _, r, _, h⟩ := h
    cases r with
    | some r => cases h; exact Upd.refl s
    | none =>
      simp only [Option.bind_eq_some_iff] at h
      obtain ⟨_, _, s1, h1, h2⟩ := h
      cases h2
      exact putX_upd ht (mget_some hp) h1
  | entryStore t m st x =>
    simp only [mapOp, estE, Option.bind_eq_some_iff] at h
    obtain ⟨_, _, _, _, p, hp, _, _, _, _, _, _, _, _, s1, h1, h2⟩ := h
    cases h2
    exact putX_upd ht (mget_some hp) h1
  | range t x =>
    obtain ⟨c, h', rfl⟩ := pkS_some.1 h
    simp only [rangeE, Option.bind_eq_some_iff] at h'
    obtain ⟨_, _, _, _, _, _, q, h1, h2⟩ := h'
    cases h2
    exact new_upd (b := q.1) (s' := q.2) h1
  | next x str =>
    simp only [mapOp, nextE, nextAt, Option.bind_eq_some_iff, chk_some] at h
    obtain ⟨_, _, _, p, _, _, xk, hx, i, _, h⟩ := h
    split at h
    · cases h; exact Upd.refl s
    · simp only [Option.bind_eq_some_iff, chk_some] at h
      obtain ⟨_, _, _, r, _, h⟩ := h
      cases r with
      | none => cases h; exact Upd.refl s
      | some r =>
        simp only [Option.bind_eq_some_iff] at h
        obtain ⟨s1, h1, h2⟩ := h
        cases h2
        exact putX_upd ht hx h1
  | entry x => exact pkA_upd h
  | _ => cases h

theorem op_upd (hc : CallUpd call) (ht : Top s) {op : Op} {v : AV} (h : opE ty held call op T s = some (v, s')) : Upd s s' := by
  cases op with
  | move x => exact pkA_upd h
  | assign x => exact pkA_upd h
  | pick c a b =>
    simp only [opE, Option.bind_eq_some_iff] at h
    obtain ⟨_, _, _, _, h⟩ := h
    exact pkA_upd h
  | alloc t =>
    simp only [opE, Option.bind_eq_some_iff] at h
    obtain ⟨_, _, _, _, h⟩ := h
    exact newPtr_upd h
  | box t x =>
    simp only [opE, Option.bind_eq_some_iff] at h
    obtain ⟨_, _, h⟩ := h
    exact newPtr_upd h
  | build t parts =>
    simp only [opE, Option.bind_eq_some_iff] at h
    obtain ⟨_, _, _, _, _, _, h⟩ := h
    cases h; exact Upd.refl s
  | buildSlice t n parts =>
    obtain ⟨c, h', rfl⟩ := pkS_some.1 h
    simp only [buildSliceE, Option.bind_eq_some_iff, chk_some] at h'
    obtain ⟨_, _, _, _, _, _, _, _, _, q, h1, h2⟩ := h'
    cases h2
    exact new_upd (b := q.1) (s' := q.2) h1
  | load t a =>
    simp only [opE, loadE, Option.bind_eq_some_iff] at h
    obtain ⟨_, _, _, _, h⟩ := h
    exact pkT_upd h
  | store t a x =>
    simp only [opE, storeE, storeAt, Option.bind_eq_some_iff, chk_some] at h
    obtain ⟨_, _, _, _, _, _, _, _, _, bk, hb, _, _, s1, h1, h2⟩ := h
    cases h2
    exact put_upd h1 (cget_some.1 hb).1 (ht.lt (cget_some.1 hb).1)
  | nilCheck x =>
    simp only [opE, Option.bind_eq_some_iff, pk] at h
    obtain ⟨_, _, _, _, h⟩ := h
    cases h; exact Upd.refl s
  | binOp op t x y t2 =>
    simp only [opE, Option.bind_eq_some_iff] at h
    obtain ⟨_, _, _, _, h⟩ := h
    exact pkM_upd h
  | unOp op t x =>
    simp only [opE, Option.bind_eq_some_iff] at h
    obtain ⟨_, _, h⟩ := h
    exact pkM_upd h
  | convert a b c => exact pkM_upd h
  | makeInterface a b => exact pkM_upd h
  | makeFunc a b c => exact pkM_upd h
  | makeSlice t l c =>
    obtain ⟨c, h', rfl⟩ := pkS_some.1 h
    simp only [makeSliceE, Option.bind_eq_some_iff, chk_some] at h'
    obtain ⟨_, _, _, _, _, _, _, _, _, _, _, _, _, _, _, _, _, q, h1, h2⟩ := h'
    cases h2
    exact new_upd (b := q.1) (s' := q.2) h1
  | slice t x lo hi mx =>
    simp only [opE, Option.bind_eq_some_iff] at h
    obtain ⟨_, _, _, _, h⟩ := h
    exact pkM_upd h
  | fieldAddr a b c => exact pkM_upd h
  | field a b c => exact pkT_upd h
  | indexAddr a b c => exact pkM_upd h
  | index a b c => exact pkT_upd h
  | extract t i =>
    simp only [opE, Option.bind_eq_some_iff] at h
    obtain ⟨_, _, h⟩ := h
    exact pkT_upd h
  | call c =>
    simp only [opE, callOp] at h
    split at h
    · simp only [Option.bind_eq_some_iff] at h
      obtain ⟨_, _, _, _, _, _, h⟩ := h
      exact hc _ _ _ _ _ h ht
    · split at h
      · exact bltM_upd ht h
      · obtain ⟨c, h', rfl⟩ := pkS_some.1 h
        exact blt_upd ht h'
    · cases h
  | _ => (simp only [opE] at h; exact mapOp_upd ht h)

theorem ops_upd (hc : CallUpd call) {all : List Oper} : ∀ {rest : List Oper} {T T' : TM} {s s' : St}, Top s → opsE ty held call nt all rest T s = some (T', s') → Upd s s'
  | [], T, T', s, s', ht, h => by simp only [opsE, Option.some.injEq, Prod.mk.injEq] at h; obtain ⟨rfl, rfl⟩ := h; exact Upd.refl s
  | o :: rest, T, T', s, s', ht, h => by
    simp only [opsE, Option.bind_eq_some_iff] at h
    obtain ⟨b, h1, h2⟩ := h
    cases b with
    | false =>
      simp only [Option.bind_eq_some_iff] at h2
      obtain ⟨T1, h3, h4⟩ := h2
      exact ops_upd hc ht h4
    | true =>
      simp only [Option.bind_eq_some_iff] at h2
      obtain ⟨p, h3, T1, h4, h5⟩ := h2
      have h6 := op_upd (s' := p.2) (v := p.1) hc ht h3
      exact h6.trans (ops_upd hc (h6.top ht) h5)

/-- the steps of a drawn region's one order -/
theorem drawE_steps {all : List Oper} {gs : List (Nat × (Nat → Bool))} {f0 : Nat → Bool} : ∀ {rest : List Oper} {i : Nat} {ms : List Nat} {x y : DS}, drawE ty held call nt all gs f0 rest i ms x = some y →
    ∃ X : Nat → DS, X 0 = x ∧ X rest.length = y ∧ ∀ j o, rest[j]? = some o → ∃ m, ms[j]? = some m ∧ draw1 ty held call nt all gs f0 o (i + j) m (X j) = some (X (j + 1))
  | [], i, ms, x, y, h => by
    simp only [drawE, Option.some.injEq] at h
    exact ⟨fun _ => x, rfl, h, fun j o hj => by simp at hj⟩
  | o :: rest, i, [], x, y, h => by simp [drawE] at h
  | o :: rest, i, m :: ms, x, y, h => by
    simp only [drawE, Option.bind_eq_some_iff] at h
    obtain ⟨x1, h1, h2⟩ := h
    obtain ⟨X, g1, g2, g3⟩ := drawE_steps h2
    refine ⟨fun j => match j with | 0 => x | j + 1 => X j, rfl, g2, fun j o' hj => ?_⟩
    cases j with
    | zero =>
      simp only [List.getElem?_cons_zero, Option.some.injEq] at hj
      subst hj
      exact ⟨m, rfl, by rw [Nat.add_zero]; show _ = some (X 0); rw [g1]; exact h1⟩
    | succ j =>
      obtain ⟨m', g4, g5⟩ := g3 j o' (by simpa using hj)
      exact ⟨m', by simpa using g4, by rw [show i + (j + 1) = i + 1 + j by omega]; exact g5⟩

/-- one step of it, seen as a step of a state -/
structure DStep (ty : Nat → Option TI) (held : Nat → Bool) (call : CallF) (nt : Nat) (all : List Oper) (gs : List (Nat × (Nat → Bool))) (f0 : Nat → Bool) (o : Oper) (i m : Nat) (x y : DS) (d : Done) (s' : St) : Prop where
  ds : y.ds = x.ds ++ [d]
  lo : d.lo = x.n
  hi : d.hi = y.n
  h : y.h = s'.h
  n : y.n = s'.n
  wr : d.wr = s'.w
  hs : y.hs = x.hs ++ [x.h]
  lds : ∀ l ∈ x.lds, l ∈ y.lds
  run : (wantE all x.T o.guard = some true ∧ ∃ v, opE ty held call o.op x.T ⟨x.h, x.n, forbE f0 i m x.ds gs, x.n, fun _ => false⟩ = some (v, s') ∧ putE nt x.T o.dst v = some y.T) ∨
    (wantE all x.T o.guard = some false ∧ s' = ⟨x.h, x.n, forbE f0 i m x.ds gs, x.n, fun _ => false⟩ ∧ putE nt x.T o.dst (.tup []) = some y.T) ∨
    (wantE all x.T o.guard = some true ∧ s' = ⟨x.h, x.n, forbE f0 i m x.ds gs, x.n, fun _ => false⟩ ∧ ∃ l, looseE ty o.op x.T f0 x.h x.n i m = some l ∧ l ∈ y.lds ∧ putE nt x.T o.dst (.v l.v) = some y.T)

theorem draw1_step {all : List Oper} {gs : List (Nat × (Nat → Bool))} {f0 : Nat → Bool} {o : Oper} {i m : Nat} {x y : DS} (h : draw1 ty held call nt all gs f0 o i m x = some y) :
    ∃ d s', DStep ty held call nt all gs f0 o i m x y d s' := by
  simp only [draw1, Option.bind_eq_some_iff] at h
  obtain ⟨b, h1, h2⟩ := h
  cases b with
  | false =>
    simp only [Option.bind_eq_some_iff] at h2
    obtain ⟨T1, h3, h4⟩ := h2
    cases h4
    exact ⟨_, ⟨x.h, x.n, forbE f0 i m x.ds gs, x.n, fun _ => false⟩, rfl, rfl, rfl, rfl, rfl, rfl, rfl, fun _ h => h, .inr (.inl ⟨h1, rfl, h3⟩)⟩
  | true =>
    simp only at h2
    split at h2
    · rename_i p h3
      simp only [Option.bind_eq_some_iff] at h2
      obtain ⟨T1, h4, h5⟩ := h2
      cases h5
      exact ⟨_, p.2, rfl, rfl, rfl, rfl, rfl, rfl, rfl, fun _ h => h, .inl ⟨h1, p.1, h3, h4⟩⟩
    · simp only [Option.bind_eq_some_iff] at h2
      obtain ⟨l, h3, T1, h4, h5⟩ := h2
      cases h5
      exact ⟨_, ⟨x.h, x.n, forbE f0 i m x.ds gs, x.n, fun _ => false⟩, rfl, rfl, rfl, rfl, rfl, rfl, rfl, fun _ h => List.mem_cons_of_mem _ h, .inr (.inr ⟨h1, rfl, l, h3, List.mem_cons_self, h4⟩)⟩

theorem DStep.upd {all : List Oper} {gs : List (Nat × (Nat → Bool))} {f0 : Nat → Bool} {o : Oper} {i m : Nat} {x y : DS} {d : Done} {s' : St} (hc : CallUpd call)
    (h : DStep ty held call nt all gs f0 o i m x y d s') (ht : ∀ k, x.n ≤ k → x.h k = none) : Upd ⟨x.h, x.n, forbE f0 i m x.ds gs, x.n, fun _ => false⟩ s' := by
  rcases h.run with ⟨_, v, h1, _⟩ | ⟨_, rfl, _⟩ | ⟨_, rfl, _⟩
  · exact op_upd hc ht h1
  · exact Upd.refl _
  · exact Upd.refl _

theorem forb_f0 {f0 : Nat → Bool} {i m k : Nat} {ds : List Done} {gs : List (Nat × (Nat → Bool))} (h : forbE f0 i m ds gs k = false) : f0 k = false := by
  simp only [forbE, Bool.or_eq_false_iff] at h
  exact h.1.1

theorem draw_upd (hc : CallUpd call) {gs : List (Nat × (Nat → Bool))} {ops : Array Oper} {y : DS} {r : TM × St} (ht : Top s) (h : drawG ty held call nt gs ops T s = some y) (hf : finD s y = some r) : Upd s r.2 := by
  obtain ⟨X, h1, h2, h3⟩ := drawE_steps h
  cases hf
  -- along the steps
  have key : ∀ j, j ≤ ops.toList.length → s.n ≤ (X j).n ∧ (∀ k, (X j).n ≤ k → (X j).h k = none) ∧ (∀ k, s.forb k = true → (X j).h k = s.h k) ∧
      (∀ k, k < s.n → (∀ d ∈ (X j).ds, d.wr k = false) → (X j).h k = s.h k) ∧ (∀ k, k < s.n → (X j).h k = s.h k ∨ (s.get k).isSome = true) ∧ (∀ d ∈ (X j).ds, ∀ k, d.wr k = true → s.forb k = false) := by
    intro j
    induction j with
    | zero =>
      intro _
      rw [h1]
      exact ⟨Nat.le_refl _, ht, fun _ _ => rfl, fun _ _ _ => rfl, fun _ _ => .inl rfl, fun d hd => by cases hd⟩
    | succ j ih =>
      intro hj
      obtain ⟨g1, g2, g3, g4, g5, g6⟩ := ih (by omega)
      obtain ⟨m, hm, hs⟩ := h3 j _ (List.getElem?_eq_getElem (by omega))
      obtain ⟨d, s', st⟩ := draw1_step hs
      have hu := st.upd hc g2
      refine ⟨by rw [st.n]; exact Nat.le_trans g1 hu.n, fun k hk => ?_, fun k hk => ?_, fun k hk hd => ?_, fun k hk => ?_, fun d' hd' k hk => ?_⟩
      · rw [st.n] at hk; rw [st.h]; exact hu.high g2 k hk
      · rw [st.h, hu.hid k (by simp [forbE, hk])]; exact g3 k hk
      · rw [st.ds] at hd
        rw [st.h, hu.kept k (by show k < (X j).n; omega) (by show k < (X j).n; omega) (by rw [← st.wr]; exact hd d (by simp))]
        exact g4 k hk (fun d' hd' => hd d' (by simp [hd']))
      · rw [st.h]
        rcases hu.low k (by show k < (X j).n; omega) with e | e
        · rw [e]; exact g5 k hk
        · rcases g5 k hk with e2 | e2
          · refine .inr ?_
            cases hg : (St.mk (X j).h (X j).n (forbE s.forb (0 + j) m (X j).ds gs) (X j).n fun _ => false).get k with
            | none => rw [hg] at e; cases e
            | some B =>
              rw [St.get_some] at hg
              have : s.get k = some B := by
                rw [St.get_some]
                exact ⟨forb_f0 hg.1, by rw [← e2]; exact hg.2⟩
              rw [this]; rfl
          · exact .inr e2
      · rw [st.ds, List.mem_append] at hd'
        rcases hd' with hd' | hd'
        · exact g6 d' hd' k hk
        · rw [List.mem_singleton] at hd'
          subst hd'
          rw [st.wr] at hk
          rcases hu.wt k hk with e | ⟨e, _⟩
          · cases e
          · exact forb_f0 e
  obtain ⟨g1, g2, g3, g4, g5, g6⟩ := key _ (Nat.le_refl _)
  rw [h2] at g1 g2 g3 g4 g5 g6
  refine ⟨g1, rfl, rfl, g3, fun k k1 k2 k3 => g4 k k1 (fun d hd => ?_), fun _ => g2, fun k hk => by simp [hk], g5, fun k hk => ?_⟩
  · simp only [Bool.or_eq_false_iff, Bool.and_eq_false_iff, List.any_eq_false] at k3
    rcases k3.2 with e | e
    · rw [show Nat.blt k s.mark = true from by rw [Nat.blt_eq]; exact k2] at e; cases e
    · simpa using e d hd
  · simp only [Bool.or_eq_true, Bool.and_eq_true, List.any_eq_true] at hk
    rcases hk with hk | ⟨hk, d, hd, hw⟩
    · exact .inl hk
    · exact .inr ⟨g6 d hd k hw, by rwa [Nat.blt_eq] at hk⟩

theorem reg_upd (hc : CallUpd call) {ops : Array Oper} {r : TM × St} (ht : Top s) (h : regE ty held call nt ops T s = some r) : Upd s r.2 := by
  simp only [regE, chk_some, Option.bind_eq_some_iff] at h
  obtain ⟨_, x, h1, h2⟩ := h
  split at h2
  · exact draw_upd hc ht h1 h2
  · simp only [chk_some, Option.bind_eq_some_iff] at h2
    obtain ⟨y, h3, _, h4⟩ := h2
    exact draw_upd hc ht h3 h4

theorem code_upd (hc : CallUpd call) : ∀ (f : Nat) {c : Code} {T : TM} {s : St} {r : CS}, Top s → codeE ty held call nt f c T s = some r → Upd s r.s := by
  intro f
  induction f with
  | zero => intro c T s r _ h; simp [codeE] at h
  | succ f ih =>
    intro c T s r ht h
    have thenU : ∀ {x y : Code}, thenE (codeE ty held call nt f x T s) (codeE ty held call nt f y) = some r → Upd s r.s := by
      intro x y h
      simp only [thenE, Option.bind_eq_some_iff] at h
      obtain ⟨r1, g1, g2⟩ := h
      have u1 := ih ht g1
      split at g2
      · exact u1.trans (ih (u1.top ht) g2)
      · cases g2; exact u1
    cases c with
    | region id ops draw =>
      simp only [codeE, Option.bind_eq_some_iff] at h
      obtain ⟨p, h1, h2⟩ := h
      cases h2
      cases draw with
      | false => exact ops_upd (T' := p.1) (s' := p.2) hc ht h1
      | true => exact reg_upd hc ht h1
    | seq x y => exact thenU h
    | cond c x y =>
      simp only [codeE, Option.bind_eq_some_iff] at h
      obtain ⟨v, h1, b, h2, h3⟩ := h
      cases b with
      | true => exact ih ht h3
      | false => exact ih ht h3
    | block id x =>
      simp only [codeE, Option.bind_eq_some_iff] at h
      obtain ⟨r1, h1, h2⟩ := h
      cases h2
      have u := ih ht h1
      exact u
    | loop x => exact thenU h
    | scope x =>
      simp only [codeE] at h
      exact ih ht h
    | skip => simp only [codeE, Option.some.injEq] at h; subst h; exact Upd.refl s
    | label l => simp only [codeE, Option.some.injEq] at h; subst h; exact Upd.refl s
    | exit id => simp only [codeE, Option.some.injEq] at h; subst h; exact Upd.refl s
    | ret => simp only [codeE, Option.some.injEq] at h; subst h; exact Upd.refl s
    | _ => simp [codeE] at h

theorem call_upd {hk : CallF} (hhk : CallUpd hk) {fn : Nat → Option Func} {steps : Nat} : ∀ d, CallUpd (callE ty held hk fn steps d) := by
  intro d
  induction d with
  | zero => intro f l s v s' h; simp [callE] at h
  | succ d ih =>
    intro f l s v s' h ht
    simp only [callE] at h
    cases hh : hk f l s with
    | some r => rw [hh] at h; cases h; exact hhk f l s v s' hh ht
    | none =>
      rw [hh] at h
      simp only [orE, Option.bind_eq_some_iff, chk_some] at h
      obtain ⟨F, h1, code, h2, h3, h4, r, h5, h6, lr, h7, h8⟩ := h
      cases h8
      exact code_upd ih steps ht h5

end
end
section
variable {ty : Nat → Option TI} {held : Nat → Bool} {call : CallF} {T T' : TM} {s : St}

theorem evc_congr {x : Operand} (h : ev T x = ev T' x) : evc T x = evc T' x := by unfold evc; rw [h]
theorem evt_congr {x : Operand} (h : ev T x = ev T' x) : evt T x = evt T' x := by unfold evt; rw [h]
theorem evs_congr : ∀ {l : List Operand}, (∀ x ∈ l, ev T x = ev T' x) → evs T l = evs T' l
  | [], _ => rfl
  | x :: l, h => by simp only [evs]; rw [h x (by simp), evs_congr fun y hy => h y (by simp [hy])]
theorem caps_congr : ∀ {l : List Operand}, (∀ x ∈ l, ev T x = ev T' x) → capsOf T l = capsOf T' l
  | [], _ => rfl
  | x :: l, h => by simp only [capsOf]; rw [evc_congr (h x (by simp)), caps_congr fun y hy => h y (by simp [hy])]
theorem fill_congr {place : Nat → Option (Nat × Nat)} : ∀ {l : List (Nat × Operand)} {cs : List CV}, (∀ p ∈ l, ev T p.2 = ev T' p.2) → fillE place T l cs = fillE place T' l cs
  | [], _, _ => rfl
  | (i, x) :: l, cs, h => by
    simp only [fillE]
    rw [evt_congr (h (i, x) (by simp))]
    congr 1; funext p; congr 1; funext v; congr 1; funext cs'
    exact fill_congr fun y hy => h y (by simp [hy])
theorem bnd_congr {x : Option Operand} (h : ∀ y ∈ x.toList, ev T y = ev T' y) : bnd T x = bnd T' x := by
  cases x with
  | none => rfl
  | some x => simp only [bnd]; rw [evc_congr (h x (by simp))]

theorem op_congr {op : Op} (h : ∀ x ∈ op.operands, ev T x = ev T' x) : opE ty held call op T s = opE ty held call op T' s := by
  cases op with
  | move x => simp only [opE]; rw [h x (by simp [Op.operands])]
  | assign x => simp only [opE]; rw [h x (by simp [Op.operands])]
  | pick c a b =>
    simp only [opE]
    rw [evc_congr (h c (by simp [Op.operands]))]
    congr 1; funext v; congr 1; funext b'
    cases b' <;> simp only [pickE]
    · rw [h b (by simp [Op.operands])]
    · rw [h a (by simp [Op.operands])]
  | alloc t => rfl
  | box t x => simp only [opE]; rw [evt_congr (h x (by simp [Op.operands]))]
  | build t parts =>
    have hp : ∀ p ∈ parts.toList, ev T p.2 = ev T' p.2 := fun p hp => h p.2 (by simp only [Op.operands, List.mem_toArray, List.mem_map]; exact ⟨p, hp, rfl⟩)
    simp only [opE]
    congr 1; funext ti; congr 1; funext z
    unfold buildE
    cases ti.desc <;> simp only [fill_congr hp]
  | buildSlice t n parts =>
    have hp : ∀ p ∈ parts.toList, ev T p.2 = ev T' p.2 := fun p hp => h p.2 (by simp only [Op.operands, List.mem_toArray, List.mem_map]; exact ⟨p, hp, rfl⟩)
    simp only [opE, buildSliceE, fill_congr hp]
  | load t a => simp only [opE, loadE]; rw [evc_congr (h a (by simp [Op.operands]))]
  | store t a x => simp only [opE, storeE]; rw [evc_congr (h a (by simp [Op.operands])), evt_congr (h x (by simp [Op.operands]))]
  | nilCheck x => simp only [opE]; rw [evc_congr (h x (by simp [Op.operands]))]
  | binOp op t x y t2 => simp only [opE]; rw [evt_congr (h x (by simp [Op.operands])), evt_congr (h y (by simp [Op.operands]))]
  | unOp op t x => simp only [opE]; rw [evc_congr (h x (by simp [Op.operands]))]
  | convert a b x => simp only [opE, convE]; rw [evc_congr (h x (by simp [Op.operands]))]
  | makeInterface a x => simp only [opE, ifaceE]; rw [evc_congr (h x (by simp [Op.operands]))]
  | makeFunc fn first captured =>
    simp only [opE, funcE]
    rw [caps_congr (fun x hx => h x (by simp only [Op.operands, Array.mem_append]; exact .inr (by simpa using hx)))]
  | makeSlice t l c => simp only [opE, makeSliceE]; rw [evc_congr (h l (by simp [Op.operands])), evc_congr (h c (by simp [Op.operands]))]
  | slice t x lo hi mx =>
    simp only [opE, sliceE]
    rw [evc_congr (h x (by simp [Op.operands])), bnd_congr (fun y hy => h y (by simp only [Op.operands, Array.mem_append]; exact .inl (.inl (.inr (by simpa using hy))))),
      bnd_congr (fun y hy => h y (by simp only [Op.operands, Array.mem_append]; exact .inl (.inr (by simpa using hy)))), bnd_congr (fun y hy => h y (by simp only [Op.operands, Array.mem_append]; exact .inr (by simpa using hy)))]
  | fieldAddr t x f => simp only [opE, fieldAddrE]; rw [evc_congr (h x (by simp [Op.operands]))]
  | field t x f => simp only [opE, fieldVE]; rw [evt_congr (h x (by simp [Op.operands]))]
  | indexAddr t x ix => simp only [opE, indexAddrE]; rw [evc_congr (h x (by simp [Op.operands])), evc_congr (h ix (by simp [Op.operands]))]
  | index t x ix => simp only [opE, indexE]; rw [evt_congr (h x (by simp [Op.operands])), evc_congr (h ix (by simp [Op.operands]))]
  | extract t i => simp only [opE]; rw [h t (by simp [Op.operands])]
  | call c =>
    have ha : ∀ x ∈ c.args.toList, ev T x = ev T' x := fun x hx => h x (by simp only [Op.operands, Call.operands, Array.mem_append]; exact .inr (by simpa using hx))
    simp only [opE, callOp]
    split
    · rename_i f hf
      rw [evc_congr (h f (by simp [Op.operands, Call.operands, hf])), evs_congr ha]
    · rename_i b hb
      have e1 : bltE ty b c.argTypes.toList c.args.toList T s = bltE ty b c.argTypes.toList c.args.toList T' s := by
        unfold bltE
        split
        · rename_i x hx
          rw [hx] at ha
          unfold lenE
          rw [evc_congr (ha x (by simp))]
        · rename_i x y hxy
          rw [hxy] at ha
          rw [evc_congr (ha x (by simp)), evc_congr (ha y (by simp))]
        · rfl
      have e2 : bltM ty held b c.argTypes.toList c.args.toList T s = bltM ty held b c.argTypes.toList c.args.toList T' s := by
        unfold bltM
        split
        · rename_i x hx
          rw [hx] at ha
          unfold lenM clearE
          rw [evc_congr (ha x (by simp))]
        · rename_i x y hxy
          rw [hxy] at ha
          unfold delE
          rw [evc_congr (ha x (by simp)), evt_congr (ha y (by simp))]
        · rfl
      rw [e1, e2]
    · rfl
  | makeMap t r =>
    simp only [opE, mapOp, makeE]
    rw [bnd_congr (fun y hy => h y (by simpa [Op.operands] using hy))]
  | lookup t x k ok => simp only [opE, mapOp, lookE]; rw [evc_congr (h x (by simp [Op.operands])), evt_congr (h k (by simp [Op.operands]))]
  | mapUpdate t m k x => simp only [opE, mapOp, updE]; rw [evc_congr (h m (by simp [Op.operands])), evt_congr (h k (by simp [Op.operands])), evt_congr (h x (by simp [Op.operands]))]
  | insert t m k x => simp only [opE, mapOp, updE]; rw [evc_congr (h m (by simp [Op.operands])), evt_congr (h k (by simp [Op.operands])), evt_congr (h x (by simp [Op.operands]))]
  | mapEntry t m k => simp only [opE, mapOp, entE]; rw [evc_congr (h m (by simp [Op.operands])), evt_congr (h k (by simp [Op.operands]))]
  | entryStore t m st x => simp only [opE, mapOp, estE]; rw [evc_congr (h m (by simp [Op.operands])), evc_congr (h st (by simp [Op.operands])), evt_congr (h x (by simp [Op.operands]))]
  | range t x => simp only [opE, mapOp, rangeE]; rw [evc_congr (h x (by simp [Op.operands]))]
  | next x str => simp only [opE, mapOp, nextE]; rw [evc_congr (h x (by simp [Op.operands]))]
  | entry x => simp only [opE, mapOp, entryE]; rw [evc_congr (h x (by simp [Op.operands]))]
  | _ => rfl
end
end Go.Proofs.YtjjfahgdmaikpaaGreatDoor.Ev
