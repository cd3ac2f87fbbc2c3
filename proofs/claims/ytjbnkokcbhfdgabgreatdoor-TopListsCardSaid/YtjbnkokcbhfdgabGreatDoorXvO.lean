/- A call that was run once, over blocks that stand as they stood then: its new blocks are laid, higher up. -/
import Derived.Test.YtjbnkokcbhfdgabGreatDoorXvN
namespace Go.Proofs.YtjbnkokcbhfdgabGreatDoor.Ev
open Go Go.RowKit
set_option linter.unusedVariables false
set_option linter.unusedSimpArgs false
set_option linter.unusedSectionVars false
set_option linter.unnecessarySimpa false
open Classical

/-! new numbers move up -/
noncomputable def shN {β : Type} (n d b : Nat) (k : Nat → β) : β := Bool.rec (motive := fun _ => β) (k b) (k (Nat.add b d)) (Nat.ble n b)
def shf (n d b : Nat) : Nat := if n ≤ b then b + d else b
theorem shN_eq {β : Type} (n d b : Nat) (k : Nat → β) : shN n d b k = k (shf n d b) := by
  unfold shN shf
  cases h : Nat.ble n b with
  | false =>
    have : ¬ n ≤ b := fun x => by rw [Nat.ble_eq_true_of_le x] at h; cases h
    rw [if_neg this]
  | true => rw [if_pos (Nat.le_of_ble_eq_true h)]; rfl
def shP (n d : Nat) : List (Nat × Nat) → List (Nat × Nat)
  | [] => []
  | p :: l => (shf n d p.1, p.2) :: shP n d l
def shC (n d : Nat) : CV → CV
  | .ptr b o => .ptr (shf n d b) o
  | .slice b o k c => .slice (shf n d b) o k c
  | .func f l => .func f (shP n d l)
  | .iface t b o => .iface t (shf n d b) o
  | .map b => .map (shf n d b)
  | .stail b x y => .stail (shf n d b) x y
  | c => c
def shL (n d : Nat) : List CV → List CV
  | [] => []
  | c :: l => shC n d c :: shL n d l
def shT (n d : Nat) : TV → TV
  | .c c => .c (shC n d c)
  | .agg l => .agg (shL n d l)
def shTs (n d : Nat) : List TV → List TV
  | [] => []
  | c :: l => shT n d c :: shTs n d l
def shA (n d : Nat) : AV → AV
  | .v t => .v (shT n d t)
  | .tup l => .tup (shTs n d l)
def shRows (n d : Nat) : List Row → List Row
  | [] => []
  | r :: l => (r.1, shT n d r.2.1, shT n d r.2.2) :: shRows n d l
def shX (n d : Nat) : Option XK → Option XK
  | some (.map rows c) => some (.map (shRows n d rows) c)
  | x => x
def shB (n d : Nat) (b : BK) : BK := ⟨shL n d b.cells, b.elem, b.os, shX n d b.x⟩
def shR (n d : Nat) : Bls → Bls
  | [] => []
  | p :: l => (p.1 + d, shB n d p.2) :: shR n d l
/-! the same, reckoned at once -/
noncomputable def shPK {β : Type} (n d : Nat) (l : List (Nat × Nat)) : (List (Nat × Nat) → β) → β :=
  List.rec (motive := fun _ => (List (Nat × Nat) → β) → β) (fun k => k []) (fun p _ ih k => Prod.rec (motive := fun _ => β) (fun a b => shN n d a fun a => ih fun l => k ((a, b) :: l)) p) l
noncomputable def shCK {β : Type} (n d : Nat) (c : CV) (k : CV → β) : β :=
  CV.rec (motive := fun _ => β) (fun b => k (.bool b)) (fun x y => k (.int x y)) (fun s => k (.str s)) (fun b o => shN n d b fun b => k (.ptr b o)) (k .nil) (fun b o x c => shN n d b fun b => k (.slice b o x c)) (k .snil) (fun f l => shPK n d l fun l => k (.func f l)) (k .nilf) (k .nili) (fun t b o => shN n d b fun b => k (.iface t b o)) (fun b => shN n d b fun b => k (.map b)) (k .nmap) (fun b x y => shN n d b fun b => k (.stail b x y)) (fun x y z => k (.md x y z)) c
noncomputable def shLK {β : Type} (n d : Nat) (l : List CV) : (List CV → β) → β :=
  List.rec (motive := fun _ => (List CV → β) → β) (fun k => k []) (fun c _ ih k => shCK n d c fun c => ih fun l => k (c :: l)) l
noncomputable def shTK {β : Type} (n d : Nat) (t : TV) (k : TV → β) : β := TV.rec (motive := fun _ => β) (fun c => shCK n d c fun c => k (.c c)) (fun l => shLK n d l fun l => k (.agg l)) t
noncomputable def shRowsK {β : Type} (n d : Nat) (l : List Row) : (List Row → β) → β :=
  List.rec (motive := fun _ => (List Row → β) → β) (fun k => k []) (fun r _ ih k => Prod.rec (motive := fun _ => β) (fun a q => Prod.rec (motive := fun _ => β) (fun x y => shTK n d x fun x => shTK n d y fun y => ih fun l => k ((a, x, y) :: l)) q) r) l
noncomputable def shXK {β : Type} (n d : Nat) (x : Option XK) (k : Option XK → β) : β :=
  Option.rec (motive := fun _ => β) (k none) (fun y => XK.rec (motive := fun _ => β) (fun rows c => shRowsK n d rows fun rows => k (some (.map rows c))) (fun a b c e => k (some (.iter a b c e))) (fun a b c => k (some (.bag a b c))) y) x
noncomputable def shRK {β : Type} (n d : Nat) (l : Bls) : (Bls → β) → β :=
  List.rec (motive := fun _ => (Bls → β) → β) (fun k => k []) (fun p _ ih k => Prod.rec (motive := fun _ => β) (fun a b => BK.rec (motive := fun _ => β) (fun cells elem os x => shLK n d cells fun cells => shXK n d x fun x => ih fun l => k ((Nat.add a d, ⟨cells, elem, os, x⟩) :: l)) b) p) l
theorem shPK_eq {β : Type} (n d : Nat) : ∀ (l : List (Nat × Nat)) (k : List (Nat × Nat) → β), shPK n d l k = k (shP n d l)
  | [], k => rfl
  | (a, b) :: l, k => by
    show shN n d a (fun a => shPK n d l fun l => k ((a, b) :: l)) = _
    rw [shN_eq, shPK_eq n d l]; rfl
theorem shCK_eq {β : Type} (n d : Nat) (c : CV) (k : CV → β) : shCK n d c k = k (shC n d c) := by
  cases c with
  | ptr b o => exact shN_eq n d b fun b => k (.ptr b o)
  | slice b o x c => exact shN_eq n d b fun b => k (.slice b o x c)
  | func f l => exact shPK_eq n d l fun l => k (.func f l)
  | iface t b o => exact shN_eq n d b fun b => k (.iface t b o)
  | map b => exact shN_eq n d b fun b => k (.map b)
  | stail b x y => exact shN_eq n d b fun b => k (.stail b x y)
  | _ => rfl
theorem shLK_eq {β : Type} (n d : Nat) : ∀ (l : List CV) (k : List CV → β), shLK n d l k = k (shL n d l)
  | [], k => rfl
  | c :: l, k => by
    show shCK n d c (fun c => shLK n d l fun l => k (c :: l)) = _
    rw [shCK_eq, shLK_eq n d l]; rfl
theorem shTK_eq {β : Type} (n d : Nat) (t : TV) (k : TV → β) : shTK n d t k = k (shT n d t) := by
  cases t with
  | c c => exact shCK_eq n d c fun c => k (.c c)
  | agg l => exact shLK_eq n d l fun l => k (.agg l)
theorem shRowsK_eq {β : Type} (n d : Nat) : ∀ (l : List Row) (k : List Row → β), shRowsK n d l k = k (shRows n d l)
  | [], k => rfl
  | (a, x, y) :: l, k => by
    show shTK n d x (fun x => shTK n d y fun y => shRowsK n d l fun l => k ((a, x, y) :: l)) = _
    rw [shTK_eq, shTK_eq, shRowsK_eq n d l]; rfl
theorem shXK_eq {β : Type} (n d : Nat) (x : Option XK) (k : Option XK → β) : shXK n d x k = k (shX n d x) := by
  cases x with
  | none => rfl
  | some y =>
    cases y with
    | map rows c => exact shRowsK_eq n d rows fun rows => k (some (.map rows c))
    | _ => rfl
theorem shRK_eq {β : Type} (n d : Nat) : ∀ (l : Bls) (k : Bls → β), shRK n d l k = k (shR n d l)
  | [], k => rfl
  | (a, ⟨cells, elem, os, x⟩) :: l, k => by
    show shLK n d cells (fun cells => shXK n d x fun x => shRK n d l fun l => k ((Nat.add a d, ⟨cells, elem, os, x⟩) :: l)) = _
    rw [shLK_eq, shXK_eq, shRK_eq n d l]; rfl
section
variable {φ ψ : Mp} {n d : Nat}
abbrev Up (φ ψ : Mp) (n d : Nat) : Prop := ∀ b p, φ b = some p → ψ (shf n d b) = some p
theorem VP.up (h : Up φ ψ n d) : ∀ {l : List (Nat × Nat)} {vs : List Value}, VP φ l vs → VP ψ (shP n d l) vs
  | [], [], _ => trivial
  | (b, o) :: l, v :: vs, ⟨⟨p, h1, h2⟩, k⟩ => ⟨⟨p, h _ _ h1, h2⟩, VP.up h k⟩
theorem VC.up (he : Up φ ψ n d) {c : CV} {u : Value} (h : VC φ c u) : VC ψ (shC n d c) u := by
  cases c with
  | slice b o n c => cases c <;> (obtain ⟨p, h1, h2⟩ := h; exact ⟨p, he _ _ h1, h2⟩)
  | ptr b o => obtain ⟨p, h1, h2⟩ := h; exact ⟨p, he _ _ h1, h2⟩
  | iface t b o => obtain ⟨p, h1, h2⟩ := h; exact ⟨p, he _ _ h1, h2⟩
  | map b => obtain ⟨p, h1, h2⟩ := h; exact ⟨p, he _ _ h1, h2⟩
  | stail b d sz => obtain ⟨p, h1, h2⟩ := h; exact ⟨p, he _ _ h1, h2⟩
  | func f l => obtain ⟨p, h1, h2⟩ := h; exact ⟨p, VP.up he h1, h2⟩
  | _ => exact h
theorem VL.up (he : Up φ ψ n d) : ∀ {l : List CV} {vs : List Value}, VL φ l vs → VL ψ (shL n d l) vs
  | [], [], _ => trivial
  | _ :: _, _ :: _, ⟨h, k⟩ => ⟨VC.up he h, VL.up he k⟩
theorem VT.up (he : Up φ ψ n d) {c : TV} {u : Value} (h : VT φ c u) : VT ψ (shT n d c) u := by
  cases c with
  | c v => exact VC.up he h
  | agg l => obtain ⟨p, h1, h2⟩ := h; exact ⟨p, VL.up he h1, h2⟩
theorem VTs.up (he : Up φ ψ n d) : ∀ {l : List TV} {vs : List Value}, VTs φ l vs → VTs ψ (shTs n d l) vs
  | [], [], _ => trivial
  | _ :: _, _ :: _, ⟨h, k⟩ => ⟨VT.up he h, VTs.up he k⟩
theorem VA.up (he : Up φ ψ n d) {c : AV} {u : Value} (h : VA φ c u) : VA ψ (shA n d c) u := by
  cases c with
  | v v => exact VT.up he h
  | tup l => obtain ⟨p, h1, h2⟩ := h; exact ⟨p, VTs.up he h1, h2⟩
theorem Rows.up (he : Up φ ψ n d) : ∀ {l : List Row} {es : List MapEntry}, Rows φ l es → Rows ψ (shRows n d l) es
  | [], [], _ => trivial
  | _ :: _, _ :: _, ⟨⟨h1, h2, h3⟩, k⟩ => ⟨⟨h1, VT.up he h2, VT.up he h3⟩, Rows.up he k⟩
/-- a block of cells, or a map -/
def mapX' : Option XK → Bool
  | none => true
  | some (.map _ _) => true
  | some _ => false
theorem HO.up (he : Up φ ψ n d) {B : BK} {p : Loc} {o : Obj} (hx : mapX' B.x = true) (h : HO φ B p o) : HO ψ (shB n d B) p o := by
  obtain ⟨cells, elem, os, x⟩ := B
  cases x with
  | none =>
    obtain ⟨c, rfl, pre, l, tl, h0, h1, h2⟩ := h
    exact ⟨c, rfl, pre, l, tl, h0, VL.up he h1, h2⟩
  | some x =>
    cases x with
    | map rows c =>
      obtain ⟨g0, es, g1, g2⟩ := h
      exact ⟨g0, es, g1, Rows.up he g2⟩
    | iter a b c e => cases hx
    | bag a b c => cases hx
end
theorem shR_mem {n d : Nat} : ∀ {l : Bls} {k : Nat} {B : BK}, (k, B) ∈ shR n d l → ∃ k0 B0, (k0, B0) ∈ l ∧ k = k0 + d ∧ B = shB n d B0
  | [], k, B, h => by cases h
  | (a, b) :: l, k, B, h => by
    rcases List.mem_cons.1 h with h | h
    · cases h; exact ⟨a, b, List.mem_cons_self .., rfl, rfl⟩
    · obtain ⟨k0, B0, h1, h2⟩ := shR_mem h; exact ⟨k0, B0, List.mem_cons_of_mem _ h1, h2⟩

def upS (e : RE) (s : St) : St := { s with h := layF (shR e.n (s.n - e.n) e.R) s.h, n := e.m + (s.n - e.n) }
noncomputable def srepF (bl : Bls) (e : RE) : CallF := fun f l s => chk (Nat.beq e.f f && (Nat.ble e.n s.n && (sameAs l e.l && (Nat.ble e.n e.m && (allSame s bl && rOk s.n (e.m + (s.n - e.n)) s.forb (shR e.n (s.n - e.n) e.R)))))) (some (shA e.n (s.n - e.n) e.v, upS e s))
noncomputable def srepK (bl : Bls) (e : RE) : CallK := fun f l s =>
  ib (Nat.beq e.f f) (ib (Nat.ble e.n s.n) (ib (sameAs l e.l) (ib (Nat.ble e.n e.m) (ib (allSameK s bl) (shRK e.n (Nat.sub s.n e.n) e.R fun R => ib (rOk s.n (Nat.add e.m (Nat.sub s.n e.n)) (isForb s.forb) R) (StK.rec (motive := fun _ => Option (AV × StK)) (fun h n forb mark log => layC R h fun h => some (shA e.n (Nat.sub n e.n) e.v, ⟨h, Nat.add e.m (Nat.sub n e.n), forb, mark, log⟩)) s) none) none) none) none) none) none
theorem srep_eq (bl : Bls) (e : RE) : CallEq (srepK bl e) (srepF bl e) := by
  intro f l s
  obtain ⟨h, n, forb, mark, log⟩ := s
  simp only [srepK, srepF, ib_eq, map_chk, allSameK_eq, layC_eq, shRK_eq, chk_and']
  have h1 : (some (shA e.n (Nat.sub n e.n) e.v, (⟨layT (shR e.n (Nat.sub n e.n) e.R) h, Nat.add e.m (Nat.sub n e.n), forb, mark, log⟩ : StK)) : Option (AV × StK)).map absP = some (shA e.n (n - e.n) e.v, upS e (absS ⟨h, n, forb, mark, log⟩)) := by
    show some (_, absS ⟨layT _ h, _, forb, mark, log⟩) = _
    congr 2
    unfold upS absS
    rw [layT_get]
    rfl
  rw [h1]
  rfl
theorem srep_upd (bl : Bls) (e : RE) : CallUpd (srepF bl e) := by
  intro f l s v s' h ht
  simp only [srepF, chk_some, Bool.and_eq_true] at h
  obtain ⟨⟨_, h1, _, h2, _, h3⟩, h4⟩ := h
  cases h4
  have h1 := Nat.le_of_ble_eq_true h1
  have h2 := Nat.le_of_ble_eq_true h2
  have hm := rOk_mem h3
  refine ⟨by show s.n ≤ e.m + (s.n - e.n); omega, rfl, rfl, fun k hk => ?_, fun k hk _ _ => ?_, fun hh k hk => ?_, fun k hk => hk, fun k hk => .inl ?_, fun k hk => .inl hk⟩
  · exact layF_out fun p hp x => by have := (hm p hp).2.2; rw [x, hk] at this; cases this
  · exact layF_out fun p hp x => by have := (hm p hp).1; omega
  · have hk : e.m + (s.n - e.n) ≤ k := hk
    show layF _ s.h k = none
    rw [layF_out fun p hp x => by have := (hm p hp).2.1; omega]
    exact hh k (by omega)
  · exact layF_out fun p hp x => by have := (hm p hp).1; omega
def plainAll : Bls → Bool
  | [] => true
  | p :: l => mapX' p.2.x && plainAll l
theorem plainAll_mem : ∀ {l : Bls}, plainAll l = true → ∀ p ∈ l, mapX' p.2.x = true
  | [], _, p, h => by cases h
  | q :: l, hs, p, h => by
    simp only [plainAll, Bool.and_eq_true] at hs
    rcases List.mem_cons.1 h with rfl | h
    · exact hs.1
    · exact plainAll_mem hs.2 p h
def SRepOk (c : CallF) (bl : Bls) (e : RE) : Prop := blsOk e.n bl = true ∧ belowAs e.n e.l = true ∧ plainAll e.R = true ∧ ∃ s', c e.f e.l (absS (smS bl e.n)) = some (e.v, s') ∧ (∀ k, k < e.n → s'.w k = false) ∧ s'.n = e.m ∧ ∀ p ∈ e.R, s'.get p.1 = some p.2
theorem srep_ok {P : Program} {K : Nat → Option Obj} {c : CallF} {bl : Bls} {e : RE} (hc : CallOk P K c) (ht : SRepOk c bl e) : CallOk P K (srepF bl e) := by
  intro f l s v s' h φ w args hr hK hv
  have hF := h
  simp only [srepF, chk_some, Bool.and_eq_true] at h
  obtain ⟨⟨c1, c2, c3, c4, c6, c5⟩, c7⟩ := h
  cases c7
  have c1 := Nat.eq_of_beq_eq_true c1
  have c2 := Nat.le_of_ble_eq_true c2
  have c3 := sameAs_eq c3
  have c4 := Nat.le_of_ble_eq_true c4
  have hm := rOk_mem c5
  subst c1; subst c3
  obtain ⟨hbl, hba, hpl, s1, t1, t2, t3, t4⟩ := ht
  generalize hd : s.n - e.n = d at *
  have hdn : s.n = e.n + d := by omega
  have hin : ∀ {k B}, (absS (smS bl e.n)).get k = some B → (k, B) ∈ bl := by
    intro k B hB
    have := (St.get_some.1 hB).2
    have this : (layT bl .nil).get k = some B := this
    rcases layT_mem this with h | h
    · exact h
    · rw [get_nil] at h; cases h
  have hsg : ∀ {k B}, (absS (smS bl e.n)).get k = some B → s.get k = some B := fun hB => allSame_mem c6 _ (hin hB)
  have hcut : cut φ s.n = φ := cut_all hr.fresh
  have hext : Ext (cut φ e.n) φ := cut_ext φ e.n
  have hrel : Rel (cut φ e.n) (absS (smS bl e.n)) w := by
    refine ⟨fun k B hB => ?_, fun k k' B B' p p' g1 g2 g3 g4 g5 => hr.inj k k' B B' p p' (hsg g1) (hsg g2) (cut_some g3).2 (cut_some g4).2 g5, fun k hk => ?_, fun k hk => ?_⟩
    · obtain ⟨e1, e2, e3⟩ := blsOk_mem hbl _ (hin hB)
      obtain ⟨p, o, g1, g2, g3⟩ := hr.blk k B (hsg hB)
      refine ⟨p, o, cut_of e1 g1, g2, ?_⟩
      rw [← hcut] at g3
      exact g3.below e2 e3
    · have hk : e.n ≤ k := hk
      cases x : cut φ e.n k with
      | none => rfl
      | some p => have := (cut_some x).1; omega
    · have hk : e.n ≤ k := hk
      cases x : (absS (smS bl e.n)).h k with
      | none => rfl
      | some B =>
        have x : (layT bl .nil).get k = some B := x
        rcases layT_mem x with h | h
        · have := (blsOk_mem hbl _ h).1
          simp only at this
          omega
        · rw [get_nil] at h; cases h
  have hvs : VAs (cut φ e.n) e.l args.toList := by
    rw [← hcut] at hv
    exact VAs.below hv hba
  obtain ⟨g1, g2⟩ := hc e.f e.l _ _ _ t1 (cut φ e.n) w args hrel (hK.sub hext) hvs
  refine ⟨g1, g2.mono ?_⟩
  rintro x w' ⟨φ2, u, ho, hva, rfl⟩
  have hsn : (absS (smS bl e.n)).n = e.n := rfl
  have seen_of : ∀ {r}, Seen (cut φ e.n) (absS (smS bl e.n)) r → Seen φ s r := by
    rintro r ⟨k, B, p, x1, x2, x3⟩
    exact ⟨k, B, p, hsg x1, (cut_some x2).2, x3⟩
  have hkept : ∀ k, k < e.n → s1.get k = (absS (smS bl e.n)).get k := by
    intro k hk
    have hf : s1.forb = (absS (smS bl e.n)).forb := ho.upd.forb
    have hh := ho.upd.kept k hk hk (t2 k hk)
    unfold St.get
    rw [hf, hh]
  let φ3 : Mp := fun k => if k < s.n then φ k else φ2 (k - d)
  have f3lo : ∀ {k}, k < s.n → φ3 k = φ k := fun hk => if_pos hk
  have f3hi : ∀ {k}, s.n ≤ k → φ3 k = φ2 (k - d) := fun hk => if_neg (by omega)
  have hup : Up φ2 φ3 e.n d := by
    intro b p hb
    unfold shf
    split
    · rw [f3hi (by omega), Nat.add_sub_cancel]; exact hb
    · rename_i hlt
      rw [f3lo (by omega)]
      rw [ho.old b (by rw [hsn]; omega)] at hb
      exact (cut_some hb).2
  have hext3 : Ext φ φ3 := by
    intro k p hk
    have : k < s.n := by
      rcases Nat.lt_or_ge k s.n with h | h
      · exact h
      · rw [hr.fresh k h] at hk; cases hk
    rw [f3lo this]; exact hk
  have hlt : ∀ {k B}, s.h k = some B → k < s.n := by
    intro k B hB
    rcases Nat.lt_or_ge k s.n with h | h
    · exact h
    · rw [hr.top k h] at hB; cases hB
  have hcl : ∀ {k B}, (upS e s).get k = some B → (∃ k0 B0, k = k0 + d ∧ B = shB e.n d B0 ∧ s1.get k0 = some B0 ∧ mapX' B0.x = true ∧ e.n ≤ k0) ∨ (s.get k = some B ∧ k < s.n) := by
    intro k B hB
    obtain ⟨y1, y2⟩ := St.get_some.1 hB
    have y2 : layF (shR e.n (s.n - e.n) e.R) s.h k = some B := y2
    rw [hd] at y2
    rcases layF_mem y2 with h | h
    · obtain ⟨k0, B0, i1, i2, i3⟩ := shR_mem h
      have := (hm _ h).1
      simp only at this
      exact .inl ⟨k0, B0, i2, i3, t4 _ i1, plainAll_mem hpl _ i1, by omega⟩
    · exact .inr ⟨St.get_some.2 ⟨y1, h⟩, hlt h⟩
  have hmix : ∀ {k B k0 B0 p p'}, s.get k = some B → k < s.n → s1.get k0 = some B0 → e.n ≤ k0 → φ k = some p → φ2 k0 = some p' → p.1 = p'.1 → False := by
    intro k B k0 B0 p p' a1 a2 b1 b2 q1 q2 q3
    obtain ⟨pp, oo, z1, z2, _⟩ := hr.blk k B a1
    rw [q1] at z1; cases z1
    have hsz := (Array.getElem?_eq_some_iff.1 z2).1
    have hn : cut φ e.n k0 = none := by unfold cut; rw [if_neg (by omega)]
    rcases ho.new k0 p' hn q2 with h | ⟨k1, B1, p1, x1, x2, x3⟩
    · omega
    · have := hr.inj k1 k B1 B p1 p (hsg x1) a1 (cut_some x2).2 q1 (by rw [x3, q3])
      subst this
      have hk1 := (cut_some x2).1
      rw [← hkept k1 hk1] at x1
      have := ho.rel.inj k1 k0 B1 B0 p1 p' x1 b1 (ho.ext _ _ x2) q2 x3
      omega
  refine ⟨φ3, u, ⟨?_, hext3, ⟨?_, ?_, ?_, ?_⟩, ho.os, ho.tape, ho.output, ho.size, fun r h1 h2 => ho.keep r h1 (fun hs => h2 (seen_of hs)), ?_, fun k hk => f3lo hk⟩, VA.up hup hva, rfl⟩
  · exact srep_upd bl e _ _ s _ _ hF hr.top
  · intro k B hB
    rcases hcl hB with ⟨k0, B0, rfl, rfl, i1, i2, i3⟩ | ⟨h, hk⟩
    · obtain ⟨p, o, x1, x2, x3⟩ := ho.rel.blk k0 B0 i1
      refine ⟨p, o, ?_, x2, HO.up hup i2 x3⟩
      rw [f3hi (by omega), Nat.add_sub_cancel]; exact x1
    · obtain ⟨p, o, x1, x2, x3⟩ := hr.blk k B h
      by_cases hs : ∃ B', (absS (smS bl e.n)).get k = some B'
      · obtain ⟨B', hB'⟩ := hs
        have hBB := hsg hB'
        rw [h] at hBB; cases hBB
        have hkn : k < e.n := (blsOk_mem hbl _ (hin hB')).1
        have hB2 : s1.get k = some B := by rw [hkept k hkn]; exact hB'
        obtain ⟨p2, o2, z1, z2, z3⟩ := ho.rel.blk k B hB2
        have hc1 : cut φ e.n k = some p := cut_of hkn x1
        rw [ho.ext _ _ hc1] at z1; cases z1
        obtain ⟨p3, o3, w1, w2, w3⟩ := hrel.blk k B hB'
        exact ⟨p, o2, hext3 _ _ x1, z2, HO.mono hext3 (HO.mono hext (HO.back ho.ext w3 z3))⟩
      · refine ⟨p, o, hext3 _ _ x1, ?_, HO.mono hext3 x3⟩
        rw [ho.keep p.1 (Array.getElem?_eq_some_iff.1 x2).1 fun hs' => ?_]
        · exact x2
        · obtain ⟨k', B', p', y1, y2, y3⟩ := hs'
          have := hr.inj k' k B' B p' p (hsg y1) h (cut_some y2).2 x1 y3
          subst this
          exact hs ⟨B', y1⟩
  · intro k k' B B' p p' a b q1 q2 q3
    rcases hcl a with ⟨k0, B0, rfl, rfl, i1, i2, i3⟩ | ⟨a1, a2⟩
    · rw [f3hi (by omega), Nat.add_sub_cancel] at q1
      rcases hcl b with ⟨k0', B0', rfl, rfl, j1, j2, j3⟩ | ⟨b1, b2⟩
      · rw [f3hi (by omega), Nat.add_sub_cancel] at q2
        rw [ho.rel.inj k0 k0' B0 B0' p p' i1 j1 q1 q2 q3]
      · rw [f3lo b2] at q2
        exact (hmix b1 b2 i1 i3 q2 q1 q3.symm).elim
    · rw [f3lo a2] at q1
      rcases hcl b with ⟨k0', B0', rfl, rfl, j1, j2, j3⟩ | ⟨b1, b2⟩
      · rw [f3hi (by omega), Nat.add_sub_cancel] at q2
        exact (hmix a1 a2 j1 j3 q1 q2 q3).elim
      · rw [f3lo b2] at q2
        exact hr.inj k k' B B' p p' a1 b1 q1 q2 q3
  · intro k hk
    have hk : e.m + (s.n - e.n) ≤ k := hk
    rw [f3hi (by omega)]
    exact ho.rel.fresh (k - d) (by omega)
  · intro k hk
    have hk : e.m + (s.n - e.n) ≤ k := hk
    show layF (shR e.n (s.n - e.n) e.R) s.h k = none
    rw [hd, layF_out fun p hp x => by have := (hm p hp).2.1; omega]
    exact hr.top k (by omega)
  · intro k p h1 h2
    rcases Nat.lt_or_ge k s.n with h | h
    · rw [f3lo h, h1] at h2; cases h2
    · rw [f3hi h] at h2
      have hn : cut φ e.n (k - d) = none := by unfold cut; rw [if_neg (by omega)]
      exact (ho.new (k - d) p hn h2).imp id seen_of
noncomputable def srepT (run : Nat → List AV → StK → Option (AV × StK)) (bl : Bls) (e : RE) : Bool :=
  Bool.rec (motive := fun _ => Bool) false (layC bl .nil fun h => match run e.f e.l ⟨h, e.n, [], e.n, []⟩ with
    | some (v, s') => sameA v e.v && (isNilL s'.log && (Nat.beq s'.n e.m && allSameK s' e.R))
    | none => false) (blsOk e.n bl && (belowAs e.n e.l && plainAll e.R))
theorem srep_of {run : Nat → List AV → StK → Option (AV × StK)} {c : CallF} (hr : ∀ f l s v s', run f l s = some (v, s') → c f l (absS s) = some (v, absS s')) {bl : Bls} {e : RE} (h : srepT run bl e = true) : SRepOk c bl e := by
  unfold srepT at h
  cases hb : blsOk e.n bl && (belowAs e.n e.l && plainAll e.R) with
  | false => rw [hb] at h; cases h
  | true =>
    rw [hb] at h
    rw [layC_eq] at h
    simp only [Bool.and_eq_true] at hb
    refine ⟨hb.1, hb.2.1, hb.2.2, ?_⟩
    have h : (match run e.f e.l (smS bl e.n) with
      | some (v, s') => sameA v e.v && (isNilL s'.log && (Nat.beq s'.n e.m && allSameK s' e.R))
      | none => false) = true := h
    split at h
    · rename_i v s' hv
      simp only [Bool.and_eq_true] at h
      obtain ⟨h1, h2, h3, h4⟩ := h
      have := sameA_eq h1
      subst this
      refine ⟨absS s', hr _ _ _ _ _ hv, fun k hk => ?_, Nat.eq_of_beq_eq_true h3, allSame_mem (by rw [← allSameK_eq]; exact h4)⟩
      show memN s'.log k = false
      cases e1 : s'.log with
      | nil => rfl
      | cons a l => rw [e1] at h2; cases h2
    · cases h
end Go.Proofs.YtjbnkokcbhfdgabGreatDoor.Ev
