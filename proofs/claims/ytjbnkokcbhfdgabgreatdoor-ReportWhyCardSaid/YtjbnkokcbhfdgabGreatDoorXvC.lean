/- Operations that read, write and make memory. -/
import Derived.Test.YtjbnkokcbhfdgabGreatDoorXvB
namespace Go.Proofs.YtjbnkokcbhfdgabGreatDoor.Ev
open Go Go.RowKit
set_option linter.unusedVariables false
set_option linter.unusedSimpArgs false
set_option linter.unusedSectionVars false
set_option linter.unnecessarySimpa false
section
variable {P : Program} {ty : Nat → Option TI} {held : Nat → Bool} {φ : Mp} {s : St} {w : World} {T : TM} {ρ : Operand → Value}

theorem Rel.at' (hr : Rel φ s w) {b : Nat} {bk : BK} (hb : s.cget b = some bk) : ∃ p, φ b = some p := by
  obtain ⟨p, _, h, _⟩ := hr.cblk b bk hb
  exact ⟨p, h⟩

theorem loadC_ok (E : Env P ty held) {t o : Nat} {r : TV} {q : Loc} {B : BK} {c : Array Value} (hw : w.heap[q.1]? = some (.cells c B.elem (0, 0))) (hh : Holds φ B q c) {ti : TI} (h1 : ty t = some ti) (h2 : partE ti o B.cells = some r) :
    ∃ u, VT φ r u ∧ (Instr.loadAt t (.pointer (some ⟨q.1, q.3 + o, none⟩))).run P w = .ok u w := by
  obtain ⟨i, hi⟩ := E.of h1
  simp only [partE, Option.bind_eq_some_iff, dropN_some] at h2
  obtain ⟨l', ⟨h3, rfl⟩, h4⟩ := h2
  split at h4
  · rename_i ha
    simp only [Option.bind_eq_some_iff, takeN_some] at h4
    obtain ⟨r', ⟨h5, rfl⟩, h6⟩ := h4
    cases h6
    simp only [List.length_drop] at h5
    obtain ⟨vs, g1, g2, g3, g4⟩ := hh.range hw (o := o) (n := ti.size) (by omega)
    refine ⟨.agg vs.toArray, ⟨vs, g1, rfl⟩, run_loadAt_mid w q.1 (q.3 + o) t vs ti.desc g3 hi.und ?_ ?_⟩
    · have := hi.agg; rw [ha] at this
      generalize ti.desc = d at this
      cases d <;> first | rfl | cases this
    · rw [hi.info]; show some i.size = some vs.length; rw [hi.size, g2]
  · rename_i ha
    unfold headT at h4
    split at h4
    · rename_i c l' hc
      cases h4
      have hlt : o < B.cells.length := by
        rcases Nat.lt_or_ge o B.cells.length with h | h
        · exact h
        · rw [List.drop_eq_nil_of_le h] at hc; cases hc
      obtain ⟨vs, g1, g2, g3, g4⟩ := hh.range hw (o := o) (n := 1) (by omega)
      rw [hc] at g1
      cases vs with
      | nil => simp at g2
      | cons v vs =>
        simp only [List.take_succ_cons] at g1
        refine ⟨v, g1.1, ?_⟩
        have hv := g3 0 v rfl
        simp only [Nat.add_zero] at hv
        have hag := run_isAgg' hi w
        rw [show ti.agg = false from by simpa using ha] at hag
        have hld : (load ⟨q.1, q.3 + o, none⟩).run P w = .ok v w := by
          unfold load
          simp only [Sem.run, hv]
        simp only [Instr.loadAt, Instr.sureAddr, loadVar, Sem.run_bind, Sem.run_pure, Result.andThen_ok, hag, Bool.false_eq_true, if_false, hld]
    · cases h4

theorem loadAt_ok (E : Env P ty held) (hr : Rel φ s w) {t b o : Nat} {r : TV} {q : Loc} (hq : φ b = some q) (h : loadAt ty t s b o = some r) :
    ∃ u, VT φ r u ∧ (Instr.loadAt t (.pointer (some ⟨q.1, q.3 + o, none⟩))).run P w = .ok u w := by
  simp only [loadAt, Option.bind_eq_some_iff] at h
  obtain ⟨bk, hb, ti, h1, h2⟩ := h
  obtain ⟨q', c, h3, h4, h5⟩ := hr.cblk b bk hb
  rw [hq] at h3; cases h3
  exact loadC_ok E h4 h5 h1 h2

theorem load_ok (E : Env P ty held) {t : Nat} {a : Operand} {v : AV} {s' : St} (hr : Rel φ s w) (ht : TR φ T ρ) (h : loadE ty t a T s = some (v, s')) : GoesV P φ s w (Instr.loadAt t (ρ a)) v s' := by
  simp only [loadE, Option.bind_eq_some_iff] at h
  obtain ⟨c, h1, p, h2, h3⟩ := h
  obtain ⟨r, h4, rfl, rfl⟩ := pkT_some.1 h3
  have hx := ht.c h1
  rw [ptrOf_some h2] at hx
  obtain ⟨q, hq, hx⟩ := hx
  obtain ⟨u, g1, g2⟩ := loadAt_ok E hr hq h4
  rw [hx]
  exact goesV_pure hr g1 g2

theorem store_ok (E : Env P ty held) {t : Nat} {a x : Operand} {v : AV} {s' : St} (hr : Rel φ s w) (ht : TR φ T ρ) (h : storeE ty t a x T s = some (v, s')) :
    Goes P φ s w (do Instr.storeAt t (ρ a) (ρ x); pure .skip) v s' := by
  simp only [storeE, Option.bind_eq_some_iff] at h
  obtain ⟨c, h1, p, h2, z, h3, h4⟩ := h
  simp only [storeAt, Option.bind_eq_some_iff, chk_some, Nat.beq_eq] at h4
  obtain ⟨ti, h5, h6, bk, hb, cs, hov, s1, hput, h7⟩ := h4
  cases h7
  obtain ⟨i, hi⟩ := E.of h5
  have hx := ht.c h1
  rw [ptrOf_some h2] at hx
  obtain ⟨q, hq, hx⟩ := hx
  have hz := (ht.t h3).cells
  have hle := (over_some.1 hov).1
  have hzl := hz.length
  obtain ⟨vs, g1, g2, g3, g4⟩ := hr.range hb hq (o := p.2) (n := z.cells.length) (by omega)
  have hout := put_out hr hb hq hov hz hput
  refine ⟨φ, _, undef, hout, ⟨[], trivial, rfl⟩, .inr ⟨?_, rfl⟩⟩
  rw [hx]
  have hst := run_storeCells_cells (P := P) q.1 (q.3 + p.2) (ρ x).cells.toList 0 w (fun j hj => by simpa using (g4 j (by omega)).1) (fun j hj => by simpa using (g4 j (by omega)).2) hz.one
  simp only [Nat.add_zero] at hst
  have hsz : (ρ x).cells.size = ti.size := by rw [← h6, hzl]; simp
  simp [Instr.storeAt, Instr.sureAddr, Sem.run_bind, storeVar, run_sizeOf' hi, hsz, hst]

theorem holds_new {B : BK} {us : List Value} (h : VL φ B.cells us) (ho : B.os = 0) (r κ : Nat) : Holds φ B ⟨r, κ, 0⟩ us.toArray :=
  ⟨[], us, [], rfl, h, by simp, fun _ => rfl, fun hne => absurd ho hne⟩

/-- a new block of given cells, that nothing follows -/
theorem newAt {s' : St} (hr : Rel φ s w) {e b : Nat} {cs : List CV} {us : List Value} (hv : VL φ cs us) (h : s.new ⟨cs, e, 0, none⟩ = some (b, s')) :
    ∃ φ', Out φ s w φ' s' (w.alloc (.cells us.toArray e)) ∧ φ' b = some ⟨w.heap.size, 0, 0⟩ := by
  obtain ⟨h1, h2⟩ := new_out (κ := 0) hr h (grew_alloc w _) (alloc_last w (.cells us.toArray e)) (HO.of_cells (B := ⟨cs, e, 0, none⟩) rfl (holds_new hv rfl w.heap.size 0))
  exact ⟨_, h1, h2⟩
/-- and one that holds no cells -/
theorem newX {s' : St} (hr : Rel φ s w) {b : Nat} {x : XK} {o : Obj} (hx : ∀ p, HX φ p x o) (h : s.new (xB x) = some (b, s')) : ∃ φ', Out φ s w φ' s' (w.alloc o) ∧ φ' b = some ⟨w.heap.size, 0, 0⟩ := by
  obtain ⟨h1, h2⟩ := new_out (κ := 0) hr h (grew_alloc w _) (alloc_last w o) (HO.of_other (fun _ => rfl) (hx _))
  exact ⟨_, h1, h2⟩

theorem newPtr_ok {s' : St} {e : Nat} {cs : List CV} {u : Value} {v : AV} (hr : Rel φ s w) (hv : VL φ cs u.cells.toList) (h : newPtr s e cs = some (v, s')) :
    GoesV P φ s w (do pure (.pointer (some (← newVar e u)))) v s' := by
  simp only [newPtr, Option.bind_eq_some_iff] at h
  obtain ⟨q, h1, h2⟩ := h
  cases h2
  obtain ⟨φ', g1, g2⟩ := newAt hr hv (b := q.1) (s' := q.2) h1
  refine ⟨φ', _, .pointer (some ⟨w.heap.size, 0, none⟩), g1, ⟨_, g2, rfl⟩, ?_⟩
  simp only [newVar, newRow, newObj, Sem.run_bind, Sem.run, Result.andThen_ok, Sem.run_pure]
  rfl

theorem zero_ok {i : TypeInfo} {t : Nat} {ti : TI} {z : List CV} (hi : TyOf P t ti i) (h : ti.zero = some z) : ∃ zv, i.zero = some zv ∧ VL φ z zv.cells.toList := by
  have hz := hi.zero
  rw [h] at hz
  simp only [zeroOf, Option.bind_eq_some_iff] at hz
  obtain ⟨zv, h1, h2⟩ := hz
  exact ⟨zv, h1, absL_ok h2⟩

theorem run_zero {i : TypeInfo} {t : Nat} {ti : TI} (hi : TyOf P t ti i) {zv : Value} (h : i.zero = some zv) (w : World) : (zeroValue t).run P w = .ok zv w := by
  simp [zeroValue, typeInfo, hi.info, h]

theorem alloc_ok (E : Env P ty held) {t : Nat} {ti : TI} {z : List CV} {v : AV} {s' : St} (hr : Rel φ s w) (h1 : ty t = some ti) (h2 : ti.zero = some z) (h : newPtr s t z = some (v, s')) :
    GoesV P φ s w (Instr.alloc t true (.tuple #[])) v s' := by
  obtain ⟨i, hi⟩ := E.of h1
  obtain ⟨zv, h3, h4⟩ := zero_ok (φ := φ) hi h2
  obtain ⟨φ', w', u, g1, g2, g3⟩ := newPtr_ok (P := P) (u := zv) hr h4 h
  refine ⟨φ', w', u, g1, g2, ?_⟩
  rw [← g3]
  simp [Instr.alloc, Sem.run_bind, run_zero hi h3]

theorem box_ok {t : Nat} {x : Operand} {z : TV} {v : AV} {s' : St} (hr : Rel φ s w) (ht : TR φ T ρ) (h1 : evt T x = some z) (h : newPtr s t z.cells = some (v, s')) :
    GoesV P φ s w (Instr.box t (ρ x)) v s' := newPtr_ok hr (ht.t h1).cells h

theorem foldl_over : ∀ (us : List Value) (n k : Nat) (ls : List Value), n + k + us.length ≤ ls.length →
    (us.zipIdx k).foldl (fun (cs : Array Value) (p : Value × Nat) => cs.setIfInBounds (n + p.2) p.1) ls.toArray = (ls.take (n + k) ++ us ++ ls.drop (n + k + us.length)).toArray
  | [], n, k, ls, _ => by simp
  | u :: us, n, k, ls, h => by
    simp only [List.length_cons] at h
    rw [List.zipIdx_cons, List.foldl_cons, List.setIfInBounds_toArray, foldl_over us n (k + 1) _ (by simp; omega)]
    congr 1
    have ho : n + k < ls.length := by omega
    rw [List.take_set, List.drop_set]
    have e2 : n + k < n + (k + 1) + us.length := by omega
    rw [if_pos e2]
    have e3 : (List.take (n + (k + 1)) ls).set (n + k) u = List.take (n + k) ls ++ [u] := by
      rw [show n + (k + 1) = (n + k) + 1 by omega, List.take_succ_eq_append_getElem ho, List.set_append]
      simp [List.length_take, Nat.min_eq_left (Nat.le_of_lt ho)]
    rw [e3]
    have e4 : n + (k + 1) + us.length = n + k + (us.length + 1) := by omega
    simp [e4]

theorem fill_ok (ht : TR φ T ρ) {place place' : Nat → Option (Nat × Nat)} (hp : ∀ i p, place i = some p → place' i = some p) : ∀ {parts : List (Nat × Operand)} {cs r : List CV} {us : List Value},
    fillE place T parts cs = some r → VL φ cs us → ∃ vs, VL φ r vs ∧ vs.length = us.length ∧ Instr.fill place' us.toArray (parts.map fun p => (p.1, ρ p.2)) = some vs.toArray
  | [], cs, r, us, h, hv => by
    simp only [fillE, Option.some.injEq] at h
    subst h
    exact ⟨us, hv, rfl, rfl⟩
  | (i, x) :: l, cs, r, us, h, hv => by
    simp only [fillE, Option.bind_eq_some_iff] at h
    obtain ⟨p, h1, z, h2, cs', h3, h4⟩ := h
    simp only [fill1, chk_some, Nat.beq_eq] at h3
    obtain ⟨h5, h6⟩ := h3
    have hz := (ht.t h2).cells
    have hzl := hz.length
    have hle := (over_some.1 h6).1
    have hul := hv.length
    have hv' := VL.over h6 hz hv
    obtain ⟨vs, g1, g2, g3⟩ := fill_ok ht hp h4 hv'
    refine ⟨vs, g1, by rw [g2]; simp; simp at hzl; omega, ?_⟩
    simp only [List.map_cons, Instr.fill, hp i p h1]
    have hsz : (ρ x).cells.size = p.2 := by rw [← h5, hzl]; simp
    have hzl' : z.cells.length = (ρ x).cells.size := by rw [hzl]; simp
    have c1 : ¬ ((ρ x).cells.size ≠ p.2 ∨ p.1 + (ρ x).cells.size > us.toArray.size) := by
      simp only [List.size_toArray]
      omega
    simp only [ne_eq, decide_eq_true_eq, Bool.or_eq_true] at c1 ⊢
    rw [if_neg (by simpa using c1)]
    rw [← g3]
    congr 1
    rw [← Array.foldl_toList, Array.toList_zipIdx]
    have := foldl_over (ρ x).cells.toList p.1 0 us (by simp; omega)
    simpa using this

theorem run_map {α β : Type} (f : α → β) (x : Sem α) (w : World) : (f <$> x).run P w = (x.run P w).andThen fun a w' => .ok (f a) w' := by
  show ((x >>= fun a => pure (f a)) : Sem β).run P w = _
  rw [Sem.run_bind]
  rfl

theorem places_ok (E : Env P ty held) : ∀ (l : List Field) (w : World), allTy ty l = true → (l.mapM fun f => (do pure (f.offset, ← sizeOf f.type) : Sem (Nat × Nat))).run P w = .ok (l.map fun f => (f.offset, P.cellsOf f.type)) w
  | [], w, _ => rfl
  | f :: l, w, h => by
    simp only [allTy, Bool.and_eq_true] at h
    obtain ⟨h1, h2⟩ := h
    split at h1
    · rename_i ti hti
      obtain ⟨i, hi⟩ := E.of hti
      have hc : P.cellsOf f.type = ti.size := by simp [Program.cellsOf, hi.info, hi.size]
      rw [List.mapM_cons]
      simp only [Sem.run_bind, run_sizeOf' hi, Result.andThen_ok, Sem.run_pure, places_ok E l w h2, List.map_cons, hc]
    · cases h1

theorem build_ok (E : Env P ty held) {t : Nat} {ti : TI} {z cs : List CV} {parts : Array (Nat × Operand)} (hr : Rel φ s w) (ht : TR φ T ρ) (h1 : ty t = some ti) (h2 : ti.zero = some z)
    (h : buildE ty t parts.toList T z ti.desc = some cs) : GoesV P φ s w (Instr.build t (parts.map fun (i, x) => (i, ρ x))) (.v (.agg cs)) s := by
  obtain ⟨i, hi⟩ := E.of h1
  obtain ⟨zv, h3, h4⟩ := zero_ok (φ := φ) hi h2
  have hpl : (parts.map fun (i, x) => (i, ρ x)).toList = parts.toList.map fun p => (p.1, ρ p.2) := by simp
  unfold buildE at h
  split at h
  · rename_i fs hfs
    have hu := hi.und
    rw [hfs] at hu
    rw [chk_some] at h
    obtain ⟨hall, h⟩ := h
    have hp : ∀ i p, fieldPlaceE ty t i = some p → (fs.toList.map fun f => (f.offset, P.cellsOf f.type))[i]? = some p := by
      intro j p hj
      simp only [fieldPlaceE, Option.bind_eq_some_iff] at hj
      obtain ⟨fp, g1, g2⟩ := hj
      cases g2
      obtain ⟨fs', fd, i', k1, k2, k3, k4⟩ := field_of E g1
      rw [hu] at k1; cases k1
      have : fs.toList[j]? = some fd := by simpa using k2
      rw [List.getElem?_map, this]
      simp [Program.cellsOf, k4.info, k3, k4.size]
    obtain ⟨vs, g1, g2, g3⟩ := fill_ok ht hp h h4
    refine goesV_pure hr (u := .agg vs.toArray) ⟨vs, g1, rfl⟩ ?_
    have hpl' := places_ok (P := P) E fs.toList w hall
    have g3' : Instr.fill (fun x => (fs.toList.map fun f => (f.offset, P.cellsOf f.type)).toArray[x]?) zv.cells (parts.map fun (i, x) => (i, ρ x)).toList = some vs.toArray := by
      rw [hpl]
      rw [show zv.cells = zv.cells.toList.toArray from by simp]
      rw [← g3]
      congr 1
      funext x
      simp
    unfold Instr.build
    simp only [Sem.run_bind, run_zero hi h3, Result.andThen_ok, run_underlying hu, Array.mapM_eq_mapM_toList, run_map, hpl', g3', Sem.run_pure]
  · rename_i n e hk
    have hu := hi.und
    rw [hk] at hu
    simp only [Option.bind_eq_some_iff] at h
    obtain ⟨ei, h5, h6⟩ := h
    obtain ⟨i2, he⟩ := E.of h5
    obtain ⟨vs, g1, g2, g3⟩ := fill_ok ht (place' := fun i => some (i * ei.size, ei.size)) (fun i p h => h) h6 h4
    refine goesV_pure hr (u := .agg vs.toArray) ⟨vs, g1, rfl⟩ ?_
    have g3' : Instr.fill (fun i => some (i * ei.size, ei.size)) zv.cells (parts.map fun (i, x) => (i, ρ x)).toList = some vs.toArray := by
      rw [hpl]
      rw [show zv.cells = zv.cells.toList.toArray from by simp]
      exact g3
    unfold Instr.build
    simp only [Sem.run_bind, run_zero hi h3, Result.andThen_ok, run_underlying hu, run_sizeOf' he, g3', Sem.run_pure]
  · cases h
end
section
variable {P : Program} {ty : Nat → Option TI} {held : Nat → Bool} {φ : Mp} {s : St} {w : World} {T : TM} {ρ : Operand → Value}

theorem range_rep (z : Array Value) : ∀ n : Nat, ((List.range (n * z.size)).map fun i => z[i % z.size]!) = (List.replicate n z.toList).flatten
  | 0 => by simp
  | n + 1 => by
    have ih := range_rep z n
    rw [Nat.succ_mul, Nat.add_comm, List.range_add, List.map_append, List.replicate_succ, List.flatten_cons, ← ih]
    congr 1
    · apply List.ext_getElem
      · simp
      · intro i h1 h2
        simp only [List.length_map, List.length_range] at h1
        simp only [List.getElem_map, List.getElem_range, Array.getElem_toList]
        rw [Nat.mod_eq_of_lt h1]
        exact getElem!_pos z i h1
    · rw [List.map_map]
      apply List.map_congr_left
      intro i _
      simp

theorem zeroCells_eq (z : Array Value) (n : Nat) : (Builtin.zeroCells z n).toList = (List.replicate n z.toList).flatten := by
  rw [← range_rep]
  simp [Builtin.zeroCells]

theorem flat_length (l : List Value) (n : Nat) : (List.replicate n l).flatten.length = n * l.length := by simp

theorem buildSlice_ok (E : Env P ty held) {t n : Nat} {parts : Array (Nat × Operand)} {r : CV} {s' : St} (hr : Rel φ s w) (ht : TR φ T ρ) (h : buildSliceE ty t n parts.toList T s = some (r, s')) :
    GoesV P φ s w (Instr.buildSlice t n (parts.map fun (i, x) => (i, ρ x))) (.v (.c r)) s' := by
  simp only [buildSliceE, Option.bind_eq_some_iff, chk_some, Nat.beq_eq, Nat.blt_eq, Nat.ble_eq] at h
  obtain ⟨p, h1, z, h2, h3, h4, h5, cs, h6, q, h7, h8⟩ := h
  cases h8
  obtain ⟨hu, i, hi⟩ := sliceTy_some E h1
  obtain ⟨zv, g1, g2⟩ := zero_ok (φ := φ) hi h2
  have hzl : zv.cells.size = p.2.size := by have := g2.length; rw [h3] at this; simpa using this.symm
  obtain ⟨vs, k1, k2, k3⟩ := fill_ok ht (place' := fun i => some (i * p.2.size, p.2.size)) (fun i p h => h) h6 (VL.rep n g2)
  obtain ⟨φ', o1, o2⟩ := newAt hr k1 (b := q.1) (s' := q.2) h7
  refine ⟨φ', _, .slice (some ⟨w.heap.size, 0, none⟩) n n, o1, ⟨_, o2, rfl⟩, ?_⟩
  have hpl : (parts.map fun (i, x) => (i, ρ x)).toList = parts.toList.map fun p => (p.1, ρ p.2) := by simp
  have h5' : ¬ (n * p.2.size > 2 ^ 24) := by have : n * p.2.size ≤ 16777216 := h5; omega
  have k3' : Instr.fill (fun i => some (i * p.2.size, p.2.size)) (List.replicate n zv.cells.toList).flatten.toArray (parts.map fun (i, x) => (i, ρ x)).toList = some vs.toArray := by rw [hpl]; exact k3
  have hrow : (if n * p.2.size = 0 then pure #[] else do pure (← zeroValue p.1).cells : Sem (Array Value)).run P w = .ok (if n * p.2.size = 0 then #[] else zv.cells) w := by
    split
    · rfl
    · simp only [Sem.run_bind, run_zero hi g1, Result.andThen_ok, Sem.run_pure]
  have hcells : (Array.range (n * p.2.size)).map ((if n * p.2.size = 0 then #[] else zv.cells)[· % (if n * p.2.size = 0 then #[] else zv.cells : Array Value).size]!) = (List.replicate n zv.cells.toList).flatten.toArray := by
    by_cases h0 : n * p.2.size = 0
    · have : n = 0 := by
        rcases Nat.mul_eq_zero.1 h0 with h | h
        · exact h
        · omega
      subst this
      simp
    · rw [if_neg h0]
      apply Array.ext'
      rw [← range_rep, hzl]
      simp
  unfold Instr.buildSlice
  simp only [Sem.run_bind, run_underlying hu, Result.andThen_ok, run_sizeOf' hi, h5', if_false]
  by_cases h0 : n * p.2.size = 0
  · rw [if_pos h0]
    rw [if_pos h0] at hcells
    simp only [Sem.run_bind, Sem.run_pure, Result.andThen_ok, hcells, k3']
    simp only [newRow, newObj, Sem.run_bind, Sem.run, Result.andThen_ok, Sem.run_pure]
    rfl
  · rw [if_neg h0]
    rw [if_neg h0] at hcells
    simp only [Sem.run_bind, Sem.run_pure, Result.andThen_ok, run_zero hi g1, hcells, k3']
    simp only [newRow, newObj, Sem.run_bind, Sem.run, Result.andThen_ok, Sem.run_pure]
    rfl

theorem wrap_small {n : Nat} (h : n ≤ 1048576) : IntKind.i64.wrap (n : Int) = n := wrap_of_inR (k := .i64) (r := (n : Int)) (by
  show Nat.blt n 9223372036854775808 = true
  rw [Nat.blt_eq]; omega)

theorem makeSlice_ok (E : Env P ty held) {t : Nat} {l c : Operand} {r : CV} {s' : St} (hr : Rel φ s w) (ht : TR φ T ρ) (h : makeSliceE ty t l c T s = some (r, s')) :
    GoesV P φ s w (Instr.makeSlice t (ρ l) (ρ c)) (.v (.c r)) s' := by
  simp only [makeSliceE, Option.bind_eq_some_iff, chk_some, Nat.beq_eq, Nat.blt_eq, Nat.ble_eq] at h
  obtain ⟨p, h1, z, h2, lv, h3, ln, h4, cv, h5, cn, h6, h7, h8, h9, h10, h11, q, h12, h13⟩ := h
  cases h13
  obtain ⟨hu, i, hi⟩ := sliceTy_some E h1
  obtain ⟨zv, g1, g2⟩ := zero_ok (φ := φ) hi h2
  have hzl : zv.cells.size = p.2.size := by have := g2.length; rw [h10] at this; simpa using this.symm
  obtain ⟨k1, rfl⟩ := natOf_some h4
  obtain ⟨k2, rfl⟩ := natOf_some h6
  have hl : ρ l = _ := ht.c h3
  have hc : ρ c = _ := ht.c h5
  obtain ⟨φ', o1, o2⟩ := newAt hr (VL.rep cn g2) (b := q.1) (s' := q.2) h12
  refine ⟨φ', _, .slice (some ⟨w.heap.size, 0, none⟩) ln cn, o1, ⟨_, o2, rfl⟩, ?_⟩
  have wl := wrap_small (n := ln) (by omega)
  have wc := wrap_small h8
  have hb : p.2.bytes * cn ≤ 1048576 * 1048576 := Nat.mul_le_mul h9 h8
  have hb' : ((p.2.bytes : Int) * (cn : Int)) ≤ 1099511627776 := by have := Int.ofNat_le.2 hb; rw [Int.natCast_mul] at this; exact this
  have hb2 : cn * p.2.bytes ≤ 1099511627776 := by rw [Nat.mul_comm]; exact hb
  have e1 : ¬ ((cn : Int) < 0 ∨ (p.2.bytes : Int) * (cn : Int) > 281474976710656) := by omega
  have e2 : ¬ ((ln : Int) < 0) := by omega
  have e3 : ¬ ((ln : Int) > (cn : Int)) := by omega
  have hroom : ∀ w, (askRoom (cn * p.2.bytes)).run P w = .ok () w := fun w => by
    unfold askRoom
    rw [if_neg (by unfold roomBytes; omega)]
    rfl
  have hti : ∀ w, (typeInfo p.1).run P w = .ok i w := fun w => by
    unfold typeInfo
    simp only [Sem.run_bind, run_program, Result.andThen_ok, hi.info]
    rfl
  have hcond : ((decide ((cn : Int) < 0) || decide ((p.2.bytes : Int) * (cn : Int) > 2 ^ 48) || decide ((ln : Int) < 0) || decide ((ln : Int) > (cn : Int))) = true) = False := by
    simp only [eq_iff_iff, iff_false, Bool.or_eq_true, decide_eq_true_eq, not_or]
    refine ⟨⟨⟨by omega, ?_⟩, by omega⟩, by omega⟩
    rw [show (2 : Int) ^ 48 = 281474976710656 from by decide]
    omega
  have hrow : (if cn * p.2.size = 0 then pure #[] else do pure (← zeroValue p.1).cells : Sem (Array Value)).run P w = .ok (if cn * p.2.size = 0 then #[] else zv.cells) w := by
    split
    · rfl
    · simp only [Sem.run_bind, run_zero hi g1, Result.andThen_ok, Sem.run_pure]
  have hcells : (Array.range (cn * p.2.size)).map ((if cn * p.2.size = 0 then #[] else zv.cells)[· % (if cn * p.2.size = 0 then #[] else zv.cells : Array Value).size]!) = (List.replicate cn zv.cells.toList).flatten.toArray := by
    by_cases h0 : cn * p.2.size = 0
    · have : cn = 0 := by
        rcases Nat.mul_eq_zero.1 h0 with h | h
        · exact h
        · omega
      subst this
      simp
    · rw [if_neg h0]
      apply Array.ext'
      rw [← range_rep, hzl]
      simp
  unfold Instr.makeSlice
  rw [hl, hc]
  simp only [Sem.run_bind, run_underlying hu, Result.andThen_ok, asInt, asIntOf, Sem.run_pure, hti, hi.bytes, Int.ofNat_eq_natCast, wl, wc, hcond, if_false, Int.toNat_natCast, hroom, run_sizeOf' hi]
  by_cases h0 : cn * p.2.size = 0
  · rw [if_pos h0]
    rw [if_pos h0] at hcells
    simp only [Sem.run_bind, Sem.run_pure, Result.andThen_ok, hcells]
    simp only [newRow, newObj, Sem.run_bind, Sem.run, Result.andThen_ok, Sem.run_pure]
    rfl
  · rw [if_neg h0]
    rw [if_neg h0] at hcells
    simp only [Sem.run_bind, Sem.run_pure, Result.andThen_ok, run_zero hi g1, hcells]
    simp only [newRow, newObj, Sem.run_bind, Sem.run, Result.andThen_ok, Sem.run_pure]
    rfl

end
section
variable {P : Program} {ty : Nat → Option TI} {held : Nat → Bool} {φ : Mp} {s : St} {w : World} {T : TM} {ρ : Operand → Value}

/-- what a slice's elements are, in the world -/
structure SliceIs (P : Program) (φ : Mp) (w : World) (size : Nat) (x : CV) (k : Nat) (cs : List CV) (u : Value) (us : List Value) : Prop where
  vl : VL φ cs us
  len : us.length = k * size
  val : u = .slice none 0 0 ∧ k = 0 ∨ ∃ r o c, u = .slice (some ⟨r, o, none⟩) k c ∧ w.rangeAt r o us

theorem slice_is (hr : Rel φ s w) {size k : Nat} {x : CV} {cs : List CV} {u : Value} (hx : VC φ x u) (h1 : cellsOfSlice s size x = some cs) (h2 : lenOfSlice x = some k) :
    ∃ us, SliceIs P φ w size x k cs u us := by
  unfold cellsOfSlice at h1
  split at h1
  · cases h1
    simp only [lenOfSlice, Option.some.injEq] at h2
    subst h2
    exact ⟨[], trivial, by simp, .inl ⟨hx, rfl⟩⟩
  · rename_i b d sz
    cases h1
    simp only [lenOfSlice, Option.some.injEq] at h2
    subst h2
    obtain ⟨q, hq, a, _, hx⟩ := hx
    exact ⟨[], trivial, by simp, .inr ⟨q.1, a, _, hx, fun j v hv => by simp at hv⟩⟩
  · rename_i b o n c
    simp only [lenOfSlice, Option.some.injEq] at h2
    subst h2
    simp only [Option.bind_eq_some_iff, dropN_some, takeN_some] at h1
    obtain ⟨bk, hb, l, ⟨g1, rfl⟩, g2, rfl⟩ := h1
    simp only [List.length_drop] at g2
    obtain ⟨q, hq⟩ := hr.at' hb
    obtain ⟨us, k1, k2, k3, k4⟩ := hr.range hb hq (o := o) (n := n * size) (by have : n.mul size = n * size := rfl; omega)
    refine ⟨us, k1, k2, .inr ?_⟩
    cases c <;> (obtain ⟨q', hq', hx⟩ := hx; rw [hq] at hq'; cases hq'; exact ⟨q.1, q.3 + o, _, hx, k3⟩)
  · cases h1

theorem SliceIs.src {size k tx e' : Nat} {x : CV} {cs : List CV} {u : Value} {us : List Value} (h : SliceIs P φ w size x k cs u us) (hk : P.underlying tx = some (.slice e')) : Src P size tx u k us w := by
  rcases h.val with ⟨rfl, rfl⟩ | ⟨r, o, c, rfl, h3⟩
  · have : us = [] := List.length_eq_zero_iff.1 (by rw [h.len]; simp)
    subst this
    exact Src.ofNil w hk 0
  · exact Src.ofSlice w hk ⟨r, o, none⟩ k c us h.len (fun j v hv => by rw [Addr.add_mid]; exact h3 j v hv) h.vl.one

theorem SliceIs.first {size k : Nat} {x : CV} {cs : List CV} {u : Value} {us : List Value} (h : SliceIs P φ w size x k cs u us) (w' : World) (hw : ∀ a, w'.cell? a = w.cell? a) :
    (Builtin.firstCells size k u).run P w' = .ok us.toArray w' := by
  rcases h.val with ⟨rfl, rfl⟩ | ⟨r, o, c, rfl, h3⟩
  · have : us = [] := List.length_eq_zero_iff.1 (by rw [h.len]; simp)
    subst this
    exact run_firstCells_none w' size 0 0 0
  · exact run_firstCells_some w' size k ⟨r, o, none⟩ k c us h.len (fun j v hv => by rw [Addr.add_mid, hw]; exact h3 j v hv)

theorem growBy_le (need M : Nat) (h : need + need / 4 + 200 ≤ M) : ∀ r c, c ≤ M → Builtin.growBy need r c ≤ M
  | 0, c, hc => hc
  | r + 1, c, hc => by
    unfold Builtin.growBy
    split
    · exact hc
    · exact growBy_le need M h r _ (by omega)

theorem nextcap_le {need old : Nat} (h : old < need) : Builtin.nextslicecap need old ≤ 2 * need + 200 := by
  unfold Builtin.nextslicecap
  split
  · omega
  · split
    · omega
    · exact growBy_le need _ (by omega) 4 old (by omega)

theorem grownCap_ge (w : World) (need old e : Nat) : need ≤ grownCap w need old e := by
  unfold grownCap Question.cut
  exact Nat.le_add_right _ _

/-- a new row for what grew -/
theorem grown_ok (hr : Rel φ s w) {elem size n need old : Nat} {cs : List CV} {us : List Value} {z : Array Value} {r : CV} {s' : St} (hs : 0 < size) (hz : z.size = size) (hv : VL φ cs us)
    (hl : us.length = need * size) (h : grown s elem size need cs = some (r, s')) :
    ∃ φ', Out φ s w φ' s' (w.drew.alloc (.cells (us.toArray ++ Builtin.zeroCells z (grownCap w need old elem - need)) elem)) ∧
      VC φ' r (.slice (some ⟨w.heap.size, 0, none⟩) need (grownCap w need old elem)) := by
  simp only [grown, Option.bind_eq_some_iff] at h
  obtain ⟨q, h1, h2⟩ := h
  cases h2
  have hge := grownCap_ge w need old elem
  have hg : Grew w (w.drew.alloc (.cells (us.toArray ++ Builtin.zeroCells z (grownCap w need old elem - need)) elem)) := (grew_drew w).trans (grew_alloc w.drew _)
  have hlast := alloc_last w.drew (.cells (us.toArray ++ Builtin.zeroCells z (grownCap w need old elem - need)) elem)
  obtain ⟨h3, h4⟩ := new_out (κ := grownCap w need old elem) hr h1 hg hlast (HO.of_cells (B := ⟨cs, elem, size, none⟩) rfl ⟨[], us, (Builtin.zeroCells z (grownCap w need old elem - need)).toList, rfl, hv, by apply Array.ext'; simp, fun h0 => by simp at h0; omega, fun _ => by
    rw [List.length_append, hl, zeroCells_eq, flat_length]
    simp only [Array.length_toList, hz]
    rw [← Nat.add_mul]
    congr 1
    omega⟩)
  exact ⟨_, h3, ⟨_, h4, by simp⟩⟩

/-- the same row goes on under a new number, from element d on -/
theorem regrow_out (hr : Rel φ s w) {b elem size d n k : Nat} {bk : BK} {q : Loc} {lo old new : List CV} {us : List Value} {s1 s' : St} {b' : Nat} (hs : 0 < size) (hb : s.cget b = some bk) (hq : φ b = some q)
    (hos : bk.os = size) (hel : bk.elem = elem) (hd : dropN (d * size) bk.cells = some lo) (ht : takeN (n * size) lo = some old) (hv : VL φ new us) (hl : us.length = k * size) (hroom : d + (n + k) ≤ q.2)
    (hk : s.put b none = some s1) (hn : s1.new ⟨old ++ new, elem, size, none⟩ = some (b', s')) :
    ∃ φ', Out φ s w φ' s' (w.setCells q.1 (q.3 + (d + n) * size) us) ∧ φ' b' = some ⟨q.1, q.2 - d, q.3 + d * size⟩ ∧ w.there q.1 (q.3 + (d + n) * size) us.length := by
  obtain ⟨p', c, h1, h2, pre, l, tl, h0, h3, rfl, h4, h5⟩ := hr.cblk b bk hb
  rw [hq] at h1; cases h1
  obtain ⟨d1, rfl⟩ := dropN_some.1 hd
  obtain ⟨t1, rfl⟩ := takeN_some.1 ht
  rw [List.length_drop] at t1
  have h5' := h5 (by omega)
  rw [hos] at h5'
  have hl3 := h3.length
  have hb0 := (cget_some.1 hb).1
  have hdn : (d + n) * size = d * size + n * size := Nat.add_mul _ _ _
  have hle' : (d + (n + k)) * size ≤ (l ++ tl).length := by rw [h5']; exact Nat.mul_le_mul_right _ hroom
  have hdk : (d + (n + k)) * size = d * size + n * size + k * size := by rw [Nat.add_mul, Nat.add_mul]; omega
  have hle : q.3 + (d + n) * size + us.length ≤ (pre ++ (l ++ tl)).length := by
    rw [List.length_append, h0, hl]; omega
  have hlt := hr.lt hb0
  have r1 := kill_rel hr hk
  have n1 := (new_eq hn).1
  have s1n : s1.n = s.n := by unfold St.put at hk; split at hk <;> cases hk; rfl
  have hfresh : φ b' = none := by rw [n1, s1n]; exact hr.fresh _ (Nat.le_refl _)
  have hext : Ext φ (upd φ b' (some ⟨q.1, q.2 - d, q.3 + d * size⟩)) := fun j p hj => by
    unfold upd
    rw [if_neg (by rintro rfl; rw [hfresh] at hj; cases hj)]
    exact hj
  have hos' := setCells_os (r := q.1) us (q.3 + (d + n) * size) w
  have hget : ∀ j B, s'.get j = some B → (j = b' ∧ B = ⟨(bk.cells.drop (d * size)).take (n * size) ++ new, elem, size, none⟩) ∨ (j ≠ b' ∧ j ≠ b ∧ s.get j = some B) := by
    intro j B hj
    rw [new_get hn] at hj
    split at hj
    · rename_i e; cases hj; exact .inl ⟨e, rfl⟩
    · rename_i e
      rw [put_get hk] at hj
      split at hj
      · cases hj
      · rename_i e2; exact .inr ⟨e, e2, hj⟩
  have hheap := setCells_heap us (q.3 + (d + n) * size) w (pre ++ (l ++ tl)) h2 hle
  refine ⟨_, ⟨(put_upd hk hb0 hlt).trans (new_upd hn), hext, ⟨fun j B hj => ?_, fun j j' B B' p p' h1 h2 h3 h4 h5 => ?_, fun j hj => ?_, ((put_upd hk hb0 hlt).trans (new_upd hn)).high hr.top⟩, hos'.1, hos'.2.1, hos'.2.2, by rw [setCells_size]; exact Nat.le_refl _, fun r h1 h2 => ?_, fun j p h1 h2 => ?_, fun j hj => ?_⟩, by simp [upd], fun j hj => ?_⟩
  · rcases hget j B hj with ⟨rfl, rfl⟩ | ⟨e1, e2, hj⟩
    · refine ⟨⟨q.1, q.2 - d, q.3 + d * size⟩, _, by simp [upd], hheap, ?_⟩
      rw [hel]
      refine HO.of_cells (B := ⟨(bk.cells.drop (d * size)).take (n * size) ++ new, elem, size, none⟩) rfl ⟨pre ++ l.take (d * size), (l.drop (d * size)).take (n * size) ++ us, (l ++ tl).drop ((d + n) * size + us.length), ?_, VL.mono hext (((h3.drop _).take _).append hv), ?_, fun h0 => by simp at h0; omega, fun _ => ?_⟩
      · rw [List.length_append, List.length_take, h0, Nat.min_eq_left (by omega)]
      · congr 1
        rw [List.take_append, List.drop_append, List.take_of_length_le (by omega), @List.drop_eq_nil_of_le _ pre _ (by omega)]
        rw [show q.3 + (d + n) * size - pre.length = (d + n) * size by omega, show q.3 + (d + n) * size + us.length - pre.length = (d + n) * size + us.length by omega]
        rw [List.take_append_of_le_length (by omega), hdn, List.take_add]
        simp [List.append_assoc]
      · simp only [List.length_append, List.length_take, List.length_drop] at hle' h5' ⊢
        rw [Nat.sub_mul, ← h5', hdn, hl, hdk] at *
        omega
    · obtain ⟨p, c, g1, g2, g3⟩ := hr.blk j B hj
      refine ⟨p, c, hext j p g1, ?_, g3.mono hext⟩
      rw [setCells_other us _ w p.1 (fun he => e2 (hr.inj j b B bk p q hj hb0 g1 hq he))]
      exact g2
  · unfold upd at h3 h4
    rcases hget j B h1 with ⟨rfl, rfl⟩ | ⟨e1, e2, hj⟩
    · rcases hget j' B' h2 with ⟨rfl, rfl⟩ | ⟨f1, f2, hj'⟩
      · rfl
      · rw [if_pos rfl] at h3; rw [if_neg f1] at h4
        cases h3
        exact absurd (hr.inj j' b B' bk p' _ hj' hb0 h4 hq h5.symm) f2
    · rcases hget j' B' h2 with ⟨rfl, rfl⟩ | ⟨f1, f2, hj'⟩
      · rw [if_neg e1] at h3; rw [if_pos rfl] at h4
        cases h4
        exact absurd (hr.inj j b B bk p _ hj hb0 h3 hq h5) e2
      · rw [if_neg e1] at h3; rw [if_neg f1] at h4
        exact hr.inj j j' B B' p p' hj hj' h3 h4 h5
  · have : s'.n = s.n + 1 := by rw [(new_eq hn).2.2]; show s1.n + 1 = _; rw [s1n]
    unfold upd
    rw [if_neg (by rw [n1, s1n]; omega)]
    exact hr.fresh j (by omega)
  · rw [setCells_other us _ w r (fun he => h2 ⟨b, bk, q, hb0, hq, he.symm⟩)]
  · unfold upd at h2
    split at h2
    · cases h2; exact .inr ⟨b, bk, q, hb0, hq, rfl⟩
    · rw [h1] at h2; cases h2
  · unfold upd
    rw [if_neg (by rw [n1, s1n]; omega)]
  · refine ⟨?_, frozen_at h2 _⟩
    rw [cell_at h2]
    simp only [List.getElem?_toArray]
    rw [List.getElem?_eq_getElem (by omega)]
    rfl

theorem overE_ok (hr : Rel φ s w) {b at_ : Nat} {new : List CV} {us : List Value} {v r : CV} {s' : St} {q : Loc} (hq : φ b = some q) (hv : VL φ new us) (h : overE s b at_ new v = some (r, s')) :
    r = v ∧ Out φ s w φ s' (w.setCells q.1 (q.3 + at_) us) ∧ w.there q.1 (q.3 + at_) us.length := by
  simp only [overE, Option.bind_eq_some_iff] at h
  obtain ⟨bk, hb, cs, h1, s1, h2, h3⟩ := h
  cases h3
  have hle := (over_some.1 h1).1
  have hl := hv.length
  obtain ⟨vs, g1, g2, g3, g4⟩ := hr.range hb hq (o := at_) (n := us.length) (by omega)
  exact ⟨rfl, put_out hr hb hq h1 hv h2, g4⟩

theorem append_ok (E : Env P ty held) {t tx ty' : Nat} {p : Nat × TI} {ui : TI} {z : List CV} {x y r : CV} {u v : Value} {s' : St} (hr : Rel φ s w) (hx : VC φ x u) (hy : VC φ y v) (h0 : sliceTy ty t = some p) (h1 : ty tx = some ui)
    (h2 : isSliceD ui.desc = true) (hz : p.2.zero = some z) (hzl : z.length = p.2.size) (h : appendE s p.1 p.2.size p.2.bytes x y = some (r, s')) :
    GoesV P φ s w (Builtin.append_ #[t, tx] ty' #[u, v]) (.v (.c r)) s' := by
  obtain ⟨hu, i, hi⟩ := sliceTy_some E h0
  obtain ⟨i2, hi2⟩ := E.of h1
  obtain ⟨zv, z1, z2⟩ := zero_ok (φ := φ) hi hz
  have hzs : zv.cells.size = p.2.size := by have := z2.length; rw [hzl] at this; simpa using this.symm
  have hk : ∃ e', P.underlying tx = some (.slice e') := by
    have := hi2.und
    unfold isSliceD at h2
    split at h2
    · rename_i e' he; rw [he] at this; exact ⟨e', this⟩
    · cases h2
  obtain ⟨e', hk⟩ := hk
  simp only [appendE, chk_some, Nat.blt_eq, Nat.ble_eq, Option.bind_eq_some_iff] at h
  obtain ⟨hs, hby, new, g1, k, g2, n, g3, g4, g5⟩ := h
  have g4 : n + k ≤ 1048576 := g4
  obtain ⟨us, hus⟩ := slice_is (P := P) hr hy g1 g2
  have src := hus.src hk
  rw [← hi.size] at src
  have hfit : ∀ old, old < n + k → Builtin.nextslicecap (n + k) old * i.bytes ≤ 281474976710656 := fun old ho => by
    have h1 := nextcap_le ho
    rw [hi.bytes]
    have : Builtin.nextslicecap (n + k) old * p.2.bytes ≤ (2 * (n + k) + 200) * 1048576 := Nat.mul_le_mul h1 hby
    omega
  have h63 : ((n + k : Nat) : Int) ≤ 9223372036854775807 := by omega
  -- there is no room: a new row
  have grows : ∀ (base : Option Addr) (cap : Nat) (old : List CV) (ols : List Value), u = .slice base n cap → cap < n + k → VL φ old ols → ols.length = n * p.2.size →
      (Builtin.firstCells i.size n (.slice base n cap)).run P w.drew = .ok ols.toArray w.drew → grown s p.1 p.2.size (n + k) (old ++ new) = some (r, s') →
      GoesV P φ s w (Builtin.append_ #[t, tx] ty' #[u, v]) (.v (.c r)) s' := by
    intro base cap old ols hu' hcap hol holl hfc hgr
    obtain ⟨φ', o1, o2⟩ := grown_ok (n := n) (old := cap) hr hs hzs (hol.append hus.vl) (by rw [List.length_append, holl, hus.len, ← Nat.add_mul]) hgr
    refine ⟨φ', _, _, o1, o2, ?_⟩
    rw [hu']
    exact run_append_grow_src w t tx ty' p.1 i zv hu hi.info z1 base n cap ols hfc v k us src hcap h63 (hfit cap hcap)
  -- there is room
  have rooms : ∀ (r0 o cap : Nat), u = .slice (some ⟨r0, o, none⟩) n cap → n + k ≤ cap → w.there r0 (o + n * p.2.size) us.length →
      (Builtin.append_ #[t, tx] ty' #[u, v]).run P w = .ok (.slice (some ⟨r0, o, none⟩) (n + k) cap) (w.setCells r0 (o + n * p.2.size) us) := by
    intro r0 o cap hu' hcap hth
    rw [hu']
    have := run_append_room_src w t tx ty' p.1 i hu hi.info r0 o n cap v k us src hcap (fun j hj => by rw [hi.size]; exact (hth j hj).1) (fun j hj => by rw [hi.size]; exact (hth j hj).2)
    rw [hi.size] at this
    exact this
  -- the block goes on under a new number
  have regrows : ∀ (b d : Nat) (bk : BK) (q : Loc) (a : Nat), s.cget b = some bk → φ b = some q → bk.os = p.2.size → bk.elem = p.1 → u = .slice (some ⟨q.1, a, none⟩) n (q.2 - d) →
      (d + (n + k) ≤ q.2 → a = q.3 + d * p.2.size) → (0 < n → a = q.3 + d * p.2.size) → regrow s p.1 p.2.size d n k b new bk = some (r, s') →
      GoesV P φ s w (Builtin.append_ #[t, tx] ty' #[u, v]) (.v (.c r)) s' := by
    intro b d bk q a hb hq hos hel hx ha ha2 hg
    simp only [regrow, Option.bind_eq_some_iff] at hg
    obtain ⟨lo, g7, old, g8, s1, g9, g10⟩ := hg
    have hd : d ≤ q.2 := by
      obtain ⟨p', c', f1, f2, pre, l, tl, f0, f3, rfl, f4, f5⟩ := hr.cblk b bk hb
      rw [hq] at f1; cases f1
      have f6 := f5 (by omega)
      rw [hos] at f6
      have := f3.length
      have := (dropN_some.1 g7).1
      have e : d.mul p.2.size = d * p.2.size := rfl
      simp only [List.length_append] at f6
      exact Nat.le_of_mul_le_mul_right (by omega : d * p.2.size ≤ q.2 * p.2.size) hs
    by_cases hcap : d + (n + k) ≤ q.2
    · simp only [grown, Option.bind_eq_some_iff] at g10
      obtain ⟨m, g11, g12⟩ := g10
      cases g12
      obtain ⟨φ', o1, o2, o3⟩ := regrow_out hr hs hb hq hos hel g7 g8 hus.vl hus.len hcap g9 g11
      have ha := ha hcap
      have e1 : a + n * p.2.size = q.3 + (d + n) * p.2.size := by rw [ha, Nat.add_mul]; omega
      have hrun := rooms q.1 a (q.2 - d) hx (by omega) (by rw [e1]; exact o3)
      rw [e1] at hrun
      exact ⟨φ', _, _, o1, ⟨_, o2, by rw [ha]; rfl⟩, hrun⟩
    · -- it goes into a new row: the old one is let go
      have r1 := kill_rel hr g9
      have hlt := hr.lt (cget_some.1 hb).1
      have hdl := dropN_some.1 g7
      have htl := takeN_some.1 g8
      have e : n.mul p.2.size = n * p.2.size := rfl
      have e2 : d.mul p.2.size = d * p.2.size := rfl
      obtain ⟨ols, f1, f2, f3, f4⟩ := hr.range hb hq (o := d * p.2.size) (n := n * p.2.size) (by rw [hdl.2, List.length_drop] at htl; omega)
      have hold : VL φ old ols := by rw [htl.2, hdl.2]; exact f1
      obtain ⟨φ', o1, o2⟩ := grown_ok (n := n) (old := q.2 - d) r1 hs hzs (hold.append hus.vl) (by rw [List.length_append, f2, hus.len, ← Nat.add_mul]; rfl) g10
      refine ⟨φ', w.drew.alloc (.cells ((ols ++ us).toArray ++ Builtin.zeroCells zv.cells (grownCap w (n + k) (q.2 - d) p.1 - (n + k))) p.1), _, ?_, o2, ?_⟩
      · refine ⟨(put_upd g9 (cget_some.1 hb).1 hlt).trans o1.upd, o1.ext, o1.rel, o1.os, o1.tape, o1.output, o1.size, fun rr h1 h2 => o1.keep rr h1 (fun h3 => h2 ?_), fun j pp h1 h2 => ?_, fun j hj => ?_⟩
        · obtain ⟨j, B, pp, j1, j2, j3⟩ := h3
          rw [put_get g9] at j1
          split at j1
          · cases j1
          · exact ⟨j, B, pp, j1, j2, j3⟩
        · rcases o1.new j pp h1 h2 with h3 | h3
          · exact .inl h3
          · obtain ⟨j', B, pp', j1, j2, j3⟩ := h3
            rw [put_get g9] at j1
            split at j1
            · cases j1
            · exact .inr ⟨j', B, pp', j1, j2, j3⟩
        · have s1n : s1.n = s.n := by unfold St.put at g9; split at g9 <;> cases g9; rfl
          exact o1.old j (by omega)
      · rw [hx]
        refine run_append_grow_src w t tx ty' p.1 i zv hu hi.info z1 _ n (q.2 - d) ols ?_ v k us src (by omega) h63 (hfit _ (by omega))
        refine run_firstCells_some w.drew i.size n ⟨q.1, a, none⟩ n (q.2 - d) ols (by rw [f2, hi.size]) (fun j vv hv => ?_)
        rw [Addr.add_mid]
        have hn : 0 < n := by
          have := (List.getElem?_eq_some_iff.1 hv).1
          rcases Nat.eq_zero_or_pos n with h0 | h0
          · subst h0; rw [f2] at this; omega
          · exact h0
        rw [ha2 hn]
        exact f3 j vv hv
  unfold appTo at g5
  split at g5
  · -- nil
    simp only [lenOfSlice, Option.some.injEq] at g3
    subst g3
    have hx : u = .slice none 0 0 := hx
    split at g5
    · rename_i hk0
      cases g5
      have hk0 := Nat.eq_of_beq_eq_true hk0
      subst hk0
      have : us = [] := List.length_eq_zero_iff.1 (by rw [hus.len]; simp)
      subst this
      refine goesV_pure hr (u := .slice none 0 0) rfl ?_
      rw [hx]
      have hlen := src.len w
      have hcl := src.cells
      simp [Builtin.append_, run_underlying hu, run_underlying hk, sizeOf, typeInfo, hi.info, hlen, hcl]
    · rename_i hk0
      have hk0 := beq_ne (by simpa using hk0)
      refine grows none 0 [] [] hx (by omega) trivial (by simp) (by simpa using run_firstCells_none w.drew i.size 0 0 0) ?_
      have : k = 0 + k := by omega
      rw [← this]
      exact g5
  · rename_i b o n' c
    simp only [lenOfSlice, Option.some.injEq] at g3
    subst g3
    obtain ⟨q, hq, hx⟩ := hx
    split at g5
    · rename_i hle
      have hle : n' + k ≤ c := Nat.le_of_ble_eq_true hle
      obtain ⟨rfl, o1, o2⟩ := overE_ok hr hq hus.vl g5
      exact ⟨φ, _, _, o1, ⟨q, hq, rfl⟩, by have := rooms q.1 (q.3 + o) c hx hle (by rw [Nat.add_assoc]; exact o2); rw [Nat.add_assoc q.3 o] at this; exact this⟩
    · rename_i hle
      have hle : ¬ (n' + k ≤ c) := fun h => by
        have h2 := Nat.ble_eq_true_of_le h
        have h3 : Nat.ble (n' + k) c = false := hle
        rw [h2] at h3; cases h3
      simp only [Option.bind_eq_some_iff] at g5
      obtain ⟨old, g6, g7⟩ := g5
      obtain ⟨ols, hols⟩ := slice_is (P := P) (k := n') hr (x := .slice b o n' (.fix c)) ⟨q, hq, hx⟩ g6 rfl
      refine grows _ c old ols hx (by omega) hols.vl hols.len ?_ g7
      have := hols.first (P := P) w.drew (fun _ => rfl)
      rw [← hi.size, hx] at this
      exact this
  · rename_i b o n' d
    simp only [lenOfSlice, Option.some.injEq] at g3
    subst g3
    simp only [chk_some, Nat.beq_eq, Option.bind_eq_some_iff] at g5
    obtain ⟨ho, bk, hb, g6⟩ := g5
    have ho : o = d * p.2.size := ho
    subst ho
    simp only [appOpn, chk_some, Nat.beq_eq] at g6
    obtain ⟨hos, hel, g7⟩ := g6
    obtain ⟨q, hq, hx⟩ := hx
    split at g7
    · rename_i hle
      have hle : (d + (n' + k)) * p.2.size ≤ bk.cells.length := Nat.le_of_ble_eq_true hle
      obtain ⟨rfl, o1, o2⟩ := overE_ok hr hq hus.vl g7
      have hcap : d + (n' + k) ≤ q.2 := by
        obtain ⟨p', c', f1, f2, pre, l, tl, f0, f3, rfl, f4, f5⟩ := hr.cblk b bk hb
        rw [hq] at f1; cases f1
        have f6 := f5 (by omega)
        rw [hos] at f6
        have := f3.length
        simp only [List.length_append] at f6
        exact Nat.le_of_mul_le_mul_right (by omega : (d + (n' + k)) * p.2.size ≤ q.2 * p.2.size) hs
      have e1 : q.3 + d * p.2.size + n' * p.2.size = q.3 + (d + n') * p.2.size := by rw [Nat.add_mul]; omega
      have hrun := rooms q.1 (q.3 + d * p.2.size) (q.2 - d) hx (by omega) (by rw [e1]; exact o2)
      rw [e1] at hrun
      exact ⟨φ, _, _, o1, ⟨q, hq, rfl⟩, hrun⟩
    · exact regrows b d bk q _ hb hq hos hel hx (fun _ => rfl) (fun _ => rfl) g7
  · rename_i b d sz
    simp only [lenOfSlice, Option.some.injEq] at g3
    subst g3
    obtain ⟨q, hq, a, ha, hx'⟩ := hx
    split at g5
    · rename_i hk0
      cases g5
      have hk0 := Nat.eq_of_beq_eq_true hk0
      subst hk0
      have : us = [] := List.length_eq_zero_iff.1 (by rw [hus.len]; simp)
      subst this
      refine ⟨φ, _, _, Out.refl hr, ⟨q, hq, a, ha, rfl⟩, ?_⟩
      have := rooms q.1 a (q.2 - d) hx' (Nat.zero_le _) (fun j hj => by simp at hj)
      exact this
    · rename_i hk0
      have hk0 := beq_ne (by simpa using hk0)
      simp only [chk_some, Nat.beq_eq, Option.bind_eq_some_iff] at g5
      obtain ⟨hsz, bk, hb, hos, hel, g6⟩ := g5
      subst hsz
      exact regrows b d bk q a hb hq hos hel hx' (fun h => ha (by omega)) (fun h => by omega) g6
  · cases g5

theorem run_lenOf {k : Nat} {size : Nat} {x : CV} {cs : List CV} {u : Value} {us : List Value} (h : SliceIs P φ w size x k cs u us) (w' : World) : (Builtin.lenOf u).run P w' = .ok k w' := by
  rcases h.val with ⟨rfl, rfl⟩ | ⟨r, o, c, rfl, h3⟩ <;> rfl

theorem copy_ok (E : Env P ty held) {t : Nat} {ts : Array Nat} {ty' : Nat} {p : Nat × TI} {x y r : CV} {u v : Value} {s' : St} (hr : Rel φ s w) (hx : VC φ x u) (hy : VC φ y v) (h0 : sliceTy ty t = some p)
    (hts : ts[0]? = some t) (h : copyE s p.2.size x y = some (r, s')) : GoesV P φ s w (Builtin.copy_ ts ty' #[u, v]) (.v (.c r)) s' := by
  obtain ⟨hu, i, hi⟩ := sliceTy_some E h0
  simp only [copyE, Option.bind_eq_some_iff, chk_some, Nat.ble_eq] at h
  obtain ⟨n, g1, k, g2, g3, cs, g4, g5⟩ := h
  obtain ⟨us, hus⟩ := slice_is (P := P) hr hy g4 g2
  have hmin : Nat.min k n = k := Nat.min_eq_left g3
  have hfc := hus.first (P := P) w (fun _ => rfl)
  have hlen := run_lenOf hus w
  unfold copyTo at g5
  split at g5
  · rename_i b o n' c
    simp only [lenOfSlice, Option.some.injEq] at g1
    subst g1
    have : ∃ q c', φ b = some q ∧ u = .slice (some ⟨q.1, q.3 + o, none⟩) n' c' := by
      cases c <;> (obtain ⟨q, hq, hx⟩ := hx; exact ⟨q, _, hq, hx⟩)
    obtain ⟨q, c', hq, hx⟩ := this
    obtain ⟨rfl, o1, o2⟩ := overE_ok hr hq hus.vl g5
    refine ⟨φ, _, .int .i64 (.ofNat k), o1, rfl, ?_⟩
    have hst := run_storeCells_cells (P := P) q.1 (q.3 + o) us 0 w (fun j hj => by simpa using (o2 j hj).1) (fun j hj => by simpa using (o2 j hj).2) hus.vl.one
    simp only [Nat.add_zero] at hst
    rw [hx]
    simp [Builtin.copy_, hts, run_underlying hu, hlen, hmin, run_sizeOf' hi, hfc, hst, goInt]
  · rename_i hno
    cases g5
    have hk : k = 0 ∧ (x = .snil ∨ ∃ b d sz, x = .stail b d sz) := by
      cases x <;> first
        | (cases g1; done)
        | (simp only [lenOfSlice, Option.some.injEq] at g1; subst g1; exact ⟨by omega, .inl rfl⟩)
        | (simp only [lenOfSlice, Option.some.injEq] at g1; subst g1; exact ⟨by omega, .inr ⟨_, _, _, rfl⟩⟩)
        | (rename_i b o n' c; exact absurd rfl (hno b o n' c))
    obtain ⟨rfl, hk⟩ := hk
    have hus0 : us = [] := List.length_eq_zero_iff.1 (by rw [hus.len]; simp)
    subst hus0
    refine goesV_pure hr (u := .int .i64 (.ofNat 0)) rfl ?_
    rcases hk with rfl | ⟨b, d, sz, rfl⟩
    · have hx : u = .slice none 0 0 := hx
      rw [hx]
      simp [Builtin.copy_, hts, run_underlying hu, hlen, run_sizeOf' hi, hfc, goInt]
    · obtain ⟨q, hq, a, _, hx⟩ := hx
      rw [hx]
      simp [Builtin.copy_, hts, run_underlying hu, hlen, run_sizeOf' hi, hfc, goInt, storeCells]

end
section
variable {P : Program} {ty : Nat → Option TI} {held : Nat → Bool} {φ : Mp} {s : St} {w : World} {T : TM} {ρ : Operand → Value}

theorem run_getMap {r : Nat} {es : Array MapEntry} {c : Nat} (h : w.heap[r]? = some (.map es c)) : (getObj r).run P w = .ok (.map es c) w := by
  simp [getObj, Sem.run, h]
theorem run_getIter {r : Nat} {m : Option Nat} {a b : Nat} {l : Array Nat} (h : w.heap[r]? = some (.mapIter m a l b)) : (getObj r).run P w = .ok (.mapIter m a l b) w := by
  simp [getObj, Sem.run, h]
theorem run_setMap {r : Nat} {es : Array MapEntry} {c : Nat} (o : Obj) (h : w.heap[r]? = some (.map es c)) : (setObj r o).run P w = .ok () { w with heap := w.heap.setIfInBounds r o } := by
  simp [setObj, Sem.run, h]
theorem run_setIter {r : Nat} {m : Option Nat} {a b : Nat} {l : Array Nat} (o : Obj) (h : w.heap[r]? = some (.mapIter m a l b)) : (setObj r o).run P w = .ok () { w with heap := w.heap.setIfInBounds r o } := by
  simp [setObj, Sem.run, h]

/-! rows -/
theorem Rows.length : ∀ {l : List Row} {es : List MapEntry}, Rows φ l es → l.length = es.length
  | [], [], _ => rfl
  | _ :: _, _ :: _, ⟨_, k⟩ => by simp [Rows.length k]
theorem Rows.set {v : TV} {u : Value} (hv : VT φ v u) : ∀ {l : List Row} {es : List MapEntry} (i : Nat), Rows φ l es → Rows φ (setRow v l i) (es.modify i fun e => { e with val := u })
  | [], [], i, _ => by simp [setRow, Rows]
  | _ :: _, _ :: _, 0, ⟨h, k⟩ => ⟨⟨h.1, h.2.1, hv⟩, k⟩
  | _ :: _, _ :: _, i + 1, ⟨h, k⟩ => by simp only [setRow, List.modify_succ_cons]; exact ⟨h, Rows.set hv i k⟩
theorem Rows.erase : ∀ {l : List Row} {es : List MapEntry} (i : Nat), Rows φ l es → Rows φ (cutRow l i) (es.eraseIdx i)
  | [], [], i, _ => by simp [cutRow, Rows]
  | _ :: _, _ :: _, 0, ⟨h, k⟩ => k
  | _ :: _, _ :: _, i + 1, ⟨h, k⟩ => ⟨h, Rows.erase i k⟩
theorem Rows.add {r : Row} {e : MapEntry} (h : RowIs φ r e) : ∀ {l : List Row} {es : List MapEntry}, Rows φ l es → Rows φ (addRow r l) (es ++ [e])
  | [], [], _ => ⟨h, trivial⟩
  | _ :: _, _ :: _, ⟨g, k⟩ => ⟨g, Rows.add h k⟩

/-! keys -/
theorem eqInts_same : ∀ {l l' : List CV} {vs us : List Value}, eqInts l l' = some true → VL φ l vs → VL φ l' us → us = vs
  | [], [], [], [], _, _, _ => rfl
  | [], _ :: _, _, _, h, _, _ => by simp [eqInts] at h
  | c :: _, [], _, _, h, _, _ => by cases c <;> simp [eqInts] at h
  | c :: l, c' :: l', v :: vs, u :: us, h, ⟨h1, h2⟩, ⟨h3, h4⟩ => by
    unfold eqInts at h
    split at h
    · rename_i e _; cases e
    · rename_i k1 a l1 k2 b l2 e1 e2
      cases e1; cases e2
      rw [chk_some] at h
      obtain ⟨g, h⟩ := h
      have := beqKind_eq g; subst this
      have h1 : v = _ := h1; have h3 : u = _ := h3
      split at h
      · rename_i hab
        rw [ieq_eq] at hab
        have : a = b := by simpa using hab
        subst this
        rw [h1, h3, eqInts_same h h2 h4]
      · cases h
    · cases h
theorem eqTV_same {k k' : TV} {u u' : Value} (h : eqTV k k' = some true) (h1 : VT φ k u) (h2 : VT φ k' u') : u' = u := by
  unfold eqTV at h
  split at h
  · rename_i k a k' b
    rw [chk_some] at h
    obtain ⟨g, h⟩ := h
    have := beqKind_eq g; subst this
    have hab : (a == b) = true := by rw [← ieq_eq]; simpa using h
    have : a = b := by simpa using hab
    subst this
    have h1 : u = _ := h1; have h2 : u' = _ := h2
    rw [h1, h2]
  · obtain ⟨vs, g1, rfl⟩ := h1
    obtain ⟨us, g2, rfl⟩ := h2
    rw [eqInts_same h g1 g2]
  · cases h

theorem run_check_int {t : Nat} {k : IntKind} (h : P.underlying t = some (.int k)) (e : Bool) (d : Nat) (v : Value) : (Instr.checkKey e (d + 1) t v).run P w = .ok () w := by
  unfold Instr.checkKey
  rw [Sem.run_bind, run_underlying h]
  rfl

theorem run_check_struct {t d : Nat} {fs : Array Field} {xs : Array Value} {e : Bool} (h : P.underlying t = some (.struct fs))
    (hf : ∀ f ∈ fs.toList, f.name ≠ "_" → ∃ x, (part f.type xs f.offset).run P w = .ok x w ∧ (Instr.checkKey e d f.type x).run P w = .ok () w) : (Instr.checkKey e (d + 1) t (.agg xs)).run P w = .ok () w := by
  unfold Instr.checkKey
  rw [Sem.run_bind, run_underlying h]
  simp only [Result.andThen_ok]
  rw [← Array.forIn_toList]
  generalize fs.toList = l at hf
  have hh : (forIn l PUnit.unit (fun (f : Field) (__s : PUnit) => (if f.name ≠ "_" then do let x ← part f.type xs f.offset; Instr.checkKey e d f.type x; pure (ForInStep.yield PUnit.unit) else pure (ForInStep.yield PUnit.unit) : Sem (ForInStep PUnit)))).run P w = .ok PUnit.unit w := by
    induction l with
    | nil => rfl
    | cons f l ih =>
      rw [List.forIn_cons]
      have ih := ih (fun g hg => hf g (by simp [hg]))
      by_cases hn : f.name = "_"
      · simp only [hn, ne_eq, not_true_eq_false, if_false, Sem.run_bind, Sem.run_pure, Result.andThen_ok]
        exact ih
      · obtain ⟨x, h1, h2⟩ := hf f (by simp) hn
        simp only [hn, ne_eq, not_false_eq_true, if_true, Sem.run_bind, Sem.run_pure, Result.andThen_ok, h1, h2]
        exact ih
  rw [Sem.run_bind]
  exact congrArg (fun x => Result.andThen x _) hh

theorem check_flat (E : Env P ty held) {e : Bool} {d : Nat} {xs : List Value} : ∀ {fs : List Field} {n : Nat} {l : List CV}, intFields ty n fs = true → l.length = fs.length → VL φ l (xs.drop n) →
    ∀ f ∈ fs, f.name ≠ "_" → ∃ x, (part f.type xs.toArray f.offset).run P w = .ok x w ∧ (Instr.checkKey e (d + 1) f.type x).run P w = .ok () w
  | [], _, _, _, _, _, f, hf, _ => by cases hf
  | g :: fs, n, l, hf, hl, h1, f, hmem, hname => by
    unfold intFields at hf
    simp only [Bool.and_eq_true, Nat.beq_eq] at hf
    obtain ⟨⟨g1, g2⟩, g3⟩ := hf
    split at g3
    · rename_i ti hti
      simp only [Bool.and_eq_true, Nat.beq_eq] at g3
      obtain ⟨⟨g4, g5⟩, g6⟩ := g3
      obtain ⟨i, hi⟩ := E.of hti
      split at g4
      · rename_i k hk
        have hu := hi.und
        rw [hk] at hu
        have hag : ti.agg = false := by rw [hi.agg, hk]; rfl
        cases l with
        | nil => simp at hl
        | cons c l =>
          cases hx : xs.drop n with
          | nil => rw [hx] at h1; exact h1.elim
          | cons x xr =>
            rw [hx] at h1
            have px : xs[n]? = some x := by rw [← List.head?_drop, hx]; rfl
            have dx : xs.drop (n + 1) = xr := by rw [← List.tail_drop, hx]; rfl
            rcases List.mem_cons.1 hmem with rfl | hmem
            · refine ⟨x, ?_, run_check_int hu e d x⟩
              unfold part; rw [Sem.run_bind, run_isAgg' hi]; simp [hag, g1, px]
            · exact check_flat E g6 (by simpa using hl) (by rw [dx]; exact h1.2) f hmem hname
      · cases g4
    · cases g3

theorem check_2 (E : Env P ty held) {e : Bool} {d : Nat} {xs : List Value} : ∀ {fs : List Field} {n N : Nat} {l : List CV}, fields2 ty held n fs = some N → n + l.length = N → VL φ l (xs.drop n) →
    ∀ f ∈ fs, f.name ≠ "_" → ∃ x, (part f.type xs.toArray f.offset).run P w = .ok x w ∧ (Instr.checkKey e (d + 2) f.type x).run P w = .ok () w
  | [], _, _, _, _, _, _, f, hf, _ => by cases hf
  | g :: fs, n, N, l, hf, hl, h1, f, hmem, hname => by
    simp only [fields2, chk_some, Option.bind_eq_some_iff, Bool.and_eq_true, Nat.beq_eq] at hf
    obtain ⟨⟨g1, g2⟩, k, g3, g4⟩ := hf
    have hle := fields2_le g4
    have ek : n.add k = n + k := rfl
    rw [ek] at hle g4
    have hlk : k ≤ l.length := by omega
    have hd : (xs.drop n).drop k = xs.drop (n + k) := by rw [List.drop_drop]
    rcases List.mem_cons.1 hmem with rfl | hmem
    · simp only [field2, Option.bind_eq_some_iff] at g3
      obtain ⟨ti, hti, g5⟩ := g3
      obtain ⟨i, hi⟩ := E.of hti
      split at g5
      · rename_i hint
        simp only [chk_some, Nat.beq_eq] at g5
        obtain ⟨g6, g7⟩ := g5
        cases g7
        obtain ⟨kd, hk⟩ := isIntD_some hint
        have hu := hi.und
        rw [hk] at hu
        have hag : ti.agg = false := by rw [hi.agg, hk]; rfl
        cases l with
        | nil => simp at hlk
        | cons c l =>
          cases hx : xs.drop n with
          | nil => rw [hx] at h1; exact h1.elim
          | cons x xr =>
            have px : xs[n]? = some x := by rw [← List.head?_drop, hx]; rfl
            refine ⟨x, ?_, run_check_int hu e _ x⟩
            unfold part; rw [Sem.run_bind, run_isAgg' hi]; simp [hag, g1, px]
      · simp only [chk_some, Option.bind_eq_some_iff, Nat.beq_eq, Bool.not_eq_true'] at g5
        obtain ⟨fs', g6, g7, g8, g9, g10⟩ := g5
        cases g10
        obtain ⟨fa, hfa, rfl⟩ := structOf_some g6
        have hu := hi.und
        rw [hfa] at hu
        have hag : ti.agg = true := by rw [hi.agg, hfa]; rfl
        refine ⟨.agg ((xs.drop n).take ti.size).toArray, ?_, ?_⟩
        · unfold part; rw [Sem.run_bind, run_isAgg' hi]
          simp [hag, Sem.run_bind, run_sizeOf' hi, List.extract_toArray, List.extract_eq_take_drop, g1]
        · refine run_check_struct hu ?_
          rw [g9]
          exact check_flat E (n := 0) g8 (l := l.take fa.toList.length) (by rw [List.length_take]; omega) (by simpa using h1.take fa.toList.length)
    · exact check_2 E g4 (l := l.drop k) (by rw [List.length_drop]; omega) (by rw [← hd]; exact h1.drop k) f hmem hname

theorem check_ok (E : Env P ty held) {t : Nat} {d : TypeDesc} {k : TV} {u : Value} (hd : P.underlying t = some d) (hv : VT φ k u) (hk : keyOk ty held t d k = true) (e : Bool) : (Instr.checkKey e 10000 t u).run P w = .ok () w := by
  unfold keyOk at hk
  split at hk
  · obtain ⟨k', rfl⟩ := isIntD_some hk
    exact run_check_int hd e 9999 u
  · rename_i l
    split at hk
    · rename_i n hn
      have hk := Nat.eq_of_beq_eq_true hk
      simp only [eqOk, Option.bind_eq_some_iff, chk_some, Bool.not_eq_true'] at hn
      obtain ⟨fs', g4, g7, g8⟩ := hn
      obtain ⟨fs, rfl, rfl⟩ := structOf_some g4
      obtain ⟨vs, h1, rfl⟩ := hv
      exact run_check_struct (d := 9999) hd (check_2 E g8 (d := 9997) (n := 0) (by rw [Nat.zero_add]; exact hk) (by simpa using h1))
    · cases hk
  · cases hk

/-- what is found -/
def FoundIs (φ : Mp) (u : Value) (rows : List Row) (es : List MapEntry) (i : Nat) (m : Option (Nat × Value)) : Option (Nat × Row) → Prop
  | none => m = none
  | some (j, r) => i ≤ j ∧ rows[j - i]? = some r ∧ ∃ e, es[j - i]? = some e ∧ RowIs φ r e ∧ e.key = u ∧ m = some (j, e.val)

theorem FoundIs.cons {u : Value} {x : Row} {rows : List Row} {y : MapEntry} {es : List MapEntry} {i : Nat} {m : Option (Nat × Value)} {r : Option (Nat × Row)} (h : FoundIs φ u rows es (i + 1) m r) : FoundIs φ u (x :: rows) (y :: es) i m r := by
  cases r with
  | none => exact h
  | some p =>
    obtain ⟨j, r⟩ := p
    obtain ⟨h1, h2, e, h3, h4⟩ := h
    refine ⟨by omega, ?_, e, ?_, h4⟩
    · rw [show j - i = (j - (i + 1)) + 1 by omega]; exact h2
    · rw [show j - i = (j - (i + 1)) + 1 by omega]; exact h3

theorem find_int {k : IntKind} {k1 : IntKind} {a : Int} : ∀ {rows : List Row} {es : List MapEntry} {i : Nat} {r : Option (Nat × Row)}, Rows φ rows es → findRow (.c (.int k a)) rows i = some r →
    ∃ m, Instr.findNow (.int k1) (.int k a) es i = some m ∧ FoundIs φ (.int k a) rows es i m r
  | [], [], i, r, _, h => by simp only [findRow, Option.some.injEq] at h; subst h; exact ⟨none, rfl, rfl⟩
  | x :: rows, e :: es, i, r, ⟨h1, h2⟩, h => by
    simp only [findRow, Option.bind_eq_some_iff] at h
    obtain ⟨b, h3, h4⟩ := h
    have hk : ∃ b', x.2.1 = .c (.int k b') ∧ b = (a == b') := by
      unfold eqTV at h3
      split at h3
      · rename_i k' a' k'' b' e1 e2
        cases e1
        rw [chk_some] at h3
        obtain ⟨g, h3⟩ := h3
        have := beqKind_eq g; subst this
        exact ⟨b', e2, by rw [← ieq_eq]; simpa using h3.symm⟩
      · rename_i e1 _; cases e1
      · cases h3
    obtain ⟨b', e1, rfl⟩ := hk
    have hx := h1.2.1
    rw [e1] at hx
    have hx : e.key = .int k b' := hx
    simp only [Instr.findNow, hx, Instr.sameNow, if_true]
    cases hab : (a == b')
    · rw [hab] at h4
      obtain ⟨m, g1, g2⟩ := find_int (k1 := k1) h2 h4
      exact ⟨m, g1, g2.cons⟩
    · rw [hab] at h4
      cases h4
      have : a = b' := by simpa using hab
      subst this
      exact ⟨_, rfl, Nat.le_refl _, by simp, e, by simp, h1, hx, rfl⟩

theorem find_agg (E : Env P ty held) {t : Nat} {fs : Array Field} {N : Nat} {l : List CV} {vs : List Value} (hd : P.underlying t = some (.struct fs)) (hh : held t = false) (hf : fields2 ty held 0 fs.toList = some N) (hl : l.length = N) (hv : VL φ l vs) :
    ∀ {rows : List Row} {es : List MapEntry} {i : Nat} {r : Option (Nat × Row)}, Rows φ rows es → findRow (.agg l) rows i = some r →
    ∃ m, (Instr.findAsking t (.agg vs.toArray) es i).run P w = .ok m w ∧ FoundIs φ (.agg vs.toArray) rows es i m r
  | [], [], i, r, _, h => by simp only [findRow, Option.some.injEq] at h; subst h; exact ⟨none, rfl, rfl⟩
  | x :: rows, e :: es, i, r, ⟨h1, h2⟩, h => by
    simp only [findRow, Option.bind_eq_some_iff] at h
    obtain ⟨b, h3, h4⟩ := h
    have hk : ∃ l', x.2.1 = .agg l' ∧ eqInts l l' = some b := by
      unfold eqTV at h3
      split at h3
      · rename_i e1 _; cases e1
      · rename_i l1 l2 e1 e2; cases e1; exact ⟨l2, e2, h3⟩
      · cases h3
    obtain ⟨l', e1, h5⟩ := hk
    have hx := h1.2.1
    rw [e1] at hx
    obtain ⟨us, hus, hx⟩ := hx
    have hfo : P.fieldsOf t = fs := by simp [Program.fieldsOf, hd]
    have he : (Op.equal t (.agg vs.toArray) (.agg us.toArray)).run P w = .ok b w := by
      have e : Op.maxDepth = 9997 + 2 + 1 := rfl
      unfold Op.equal
      rw [e, run_equalIn_struct w _ t _ _ (by rw [hfo]; exact hd) (by rw [← E.held]; exact hh), hfo]
      exact fields2_ok E hf (by rw [Nat.zero_add]; exact hl) (by simpa using hv) (by simpa using hus) h5
    simp only [Instr.findAsking, Sem.run_bind, hx, he, Result.andThen_ok]
    cases b
    · obtain ⟨m, g1, g2⟩ := find_agg E hd hh hf hl hv h2 h4
      exact ⟨m, g1, g2.cons⟩
    · cases h4
      exact ⟨_, rfl, Nat.le_refl _, by simp, e, by simp, h1, by rw [hx, eqInts_same h5 hv hus], rfl⟩

theorem find_ok (E : Env P ty held) {t : Nat} {d : TypeDesc} {k : TV} {u : Value} {rows : List Row} {es : List MapEntry} {r : Option (Nat × Row)} (hd : P.underlying t = some d) (hv : VT φ k u) (hk : keyOk ty held t d k = true) (hr : Rows φ rows es) (h : findRow k rows 0 = some r) :
    ∃ m, (Instr.findKey t u es).run P w = .ok m w ∧ FoundIs φ u rows es 0 m r := by
  unfold keyOk at hk
  unfold Instr.findKey
  rw [Sem.run_bind, run_underlying hd]
  simp only [Result.andThen_ok]
  split at hk
  · obtain ⟨k', rfl⟩ := isIntD_some hk
    have hv : u = _ := hv
    subst hv
    obtain ⟨m, h1, h2⟩ := find_int (k1 := k') hr h
    rw [h1]
    exact ⟨m, rfl, h2⟩
  · rename_i l
    split at hk
    · rename_i n hn
      have hk := Nat.eq_of_beq_eq_true hk
      simp only [eqOk, Option.bind_eq_some_iff, chk_some, Bool.not_eq_true'] at hn
      obtain ⟨fs', g4, g7, g8⟩ := hn
      obtain ⟨fs, rfl, rfl⟩ := structOf_some g4
      obtain ⟨vs, h1, rfl⟩ := hv
      cases es with
      | nil =>
        cases rows with
        | nil => simp only [findRow, Option.some.injEq] at h; subst h; exact ⟨none, rfl, rfl⟩
        | cons _ _ => exact hr.elim
      | cons e es =>
        obtain ⟨m, h2, h3⟩ := find_agg (w := w) E hd g7 g8 hk h1 hr h
        exact ⟨m, h2, h3⟩
    · cases hk
  · cases hk

theorem same_int {d : Nat} {k : IntKind} {a : Int} : Instr.sameBits d (.int k a) (.int k a) = true := by cases d <;> simp [Instr.sameBits]
theorem same_key {k k' : TV} {u : Value} (hk : eqTV k k' = some true) (hv : VT φ k u) : Instr.sameBits 10000 u u = true := by
  unfold eqTV at hk
  split at hk
  · have hv : u = _ := hv
    subst hv
    exact same_int
  · rename_i l l'
    obtain ⟨vs, h1, rfl⟩ := hv
    have key : ∀ (l l' : List CV) (vs : List Value), eqInts l l' = some true → VL φ l vs → (vs.zip vs).all (fun (x, y) => Instr.sameBits 9999 x y) = true := by
      intro l
      induction l with
      | nil => intro l' vs _ h; cases vs with
        | nil => rfl
        | cons _ _ => exact h.elim
      | cons c l ih =>
        intro l' vs h hv
        cases vs with
        | nil => exact hv.elim
        | cons v vs =>
          cases l' with
          | nil => cases c <;> simp [eqInts] at h
          | cons c' l' =>
            unfold eqInts at h
            split at h
            · rename_i e _; cases e
            · rename_i k1 a l1 k2 b l2 e1 e2
              cases e1; cases e2
              rw [chk_some] at h
              obtain ⟨g, h⟩ := h
              split at h
              · have hv1 : v = _ := hv.1
                rw [List.zip_cons_cons, List.all_cons, ih l' vs h hv.2, hv1]
                simp [same_int]
              · cases h
            · cases h
    show Instr.sameBits (9999 + 1) (.agg vs.toArray) (.agg vs.toArray) = true
    unfold Instr.sameBits
    simp only [beq_self_eq_true, Bool.true_and]
    exact key l l' vs hk h1
  · cases hk
end
section
variable {P : Program} {ty : Nat → Option TI} {held : Nat → Bool} {φ : Mp} {s : St} {w : World} {T : TM} {ρ : Operand → Value}

theorem mapTy_some (E : Env P ty held) {t : Nat} {m : MT} (h : mapTy ty t = some m) : P.underlying t = some (.map m.k m.e) ∧ P.underlying m.k = some m.kd ∧ ∃ i, TyOf P m.e m.ei i := by
  simp only [mapTy, Option.bind_eq_some_iff] at h
  obtain ⟨ti, h1, p, h2, ki, h3, ei, h4, h5⟩ := h
  cases h5
  obtain ⟨_, ht⟩ := E.of h1
  obtain ⟨_, hk⟩ := E.of h3
  unfold mapD at h2
  split at h2
  · rename_i hd
    cases h2
    have hu := ht.und
    rw [hd] at hu
    exact ⟨hu, hk.und, E.of h4⟩
  · cases h2
theorem mapX_some {x : XK} {p : List Row × Nat} (h : mapX x = some p) : x = .map p.1 p.2 := by unfold mapX at h; split at h <;> cases h; rfl
theorem mget_some {b : Nat} {p : List Row × Nat} (h : mget s b = some p) : s.xget b = some (.map p.1 p.2) := by
  simp only [mget, Option.bind_eq_some_iff] at h
  obtain ⟨x, h1, h2⟩ := h
  rw [h1, mapX_some h2]
theorem mapOf_some {c : CV} {b : Nat} (h : mapOf c = some b) : c = .map b := by unfold mapOf at h; split at h <;> cases h; rfl
theorem iterX_some {x : XK} {i : Option Nat × Nat × List Nat × Nat} (h : iterX x = some i) : x = .iter i.1 i.2.1 i.2.2.1 i.2.2.2 := by unfold iterX at h; split at h <;> cases h; rfl

/-- a map that is not nil, in the world -/
theorem map_at (hr : Rel φ s w) {b : Nat} {p : List Row × Nat} (h : mget s b = some p) : ∃ q es, φ b = some q ∧ w.heap[q.1]? = some (.map es.toArray p.2) ∧ Rows φ p.1 es := by
  obtain ⟨q, o, h1, h2, h3, h4⟩ := hr.xblk (mget_some h)
  obtain ⟨es, rfl, h5⟩ := h4
  exact ⟨q, es, h1, h2, h5⟩

theorem zero2 {t : Nat} {ti : TI} {i : TypeInfo} {z : TV} (hi : TyOf P t ti i) (h : ti.z = some z) : ∃ zv, i.zero = some zv ∧ VT φ z zv := by
  have hz := hi.z
  rw [h] at hz
  simp only [zeroTV, Option.bind_eq_some_iff] at hz
  obtain ⟨zv, h1, a, h2, h3⟩ := hz
  refine ⟨zv, h1, ?_⟩
  have := absA_ok (φ := φ) h2
  unfold tOf at h3
  split at h3
  · cases h3; exact this
  · cases h3

theorem FoundIs.get {u : Value} {rows : List Row} {es : List MapEntry} {m : Option (Nat × Value)} {j : Nat} {r : Row} (h : FoundIs φ u rows es 0 m (some (j, r))) :
    rows[j]? = some r ∧ ∃ e, es[j]? = some e ∧ RowIs φ r e ∧ e.key = u ∧ m = some (j, e.val) := h.2

theorem look_ok (E : Env P ty held) {t : Nat} {x k : Operand} {ok : Bool} {v : AV} {s' : St} (hr : Rel φ s w) (ht : TR φ T ρ) (h : lookE ty held t x k ok T s = some (v, s')) : GoesV P φ s w (Instr.lookup t (ρ x) (ρ k) ok) v s' := by
  simp only [lookE, Option.bind_eq_some_iff, chk_some] at h
  obtain ⟨m, h1, xc, h2, rows, h3, kt, h4, h5, r, h6, h7⟩ := h
  obtain ⟨hu, hku, i, hi⟩ := mapTy_some E h1
  have hk := ht.t h4
  -- the entries
  have : ∃ es : List MapEntry, Rows φ rows es ∧ ((ρ x = .map none ∧ es = []) ∨ ∃ r c, ρ x = .map (some r) ∧ w.heap[r]? = some (.map es.toArray c)) := by
    have hx := ht.c h2
    unfold rowsOf at h3
    split at h3
    · cases h3
      exact ⟨[], trivial, .inl ⟨hx, rfl⟩⟩
    · simp only [Option.bind_eq_some_iff] at h3
      obtain ⟨p, g1, g2⟩ := h3
      cases g2
      obtain ⟨q, es, g3, g4, g5⟩ := map_at hr g1
      obtain ⟨q', hq', hx⟩ := hx
      rw [g3] at hq'; cases hq'
      exact ⟨es, g5, .inr ⟨_, _, hx, g4⟩⟩
    · cases h3
  obtain ⟨es, hes, hrun⟩ := this
  obtain ⟨mm, h8, h9⟩ := find_ok (w := w) E hku hk h5 hes h6
  have hc := check_ok (P := P) (w := w) E hku hk h5
  have full : ∀ (v : Value) (b : Bool), ((∃ j, mm = some (j, v)) ∧ b = true ∨ mm = none ∧ b = false ∧ (zeroValue m.e).run P w = .ok v w) →
      (Instr.lookup t (ρ x) (ρ k) ok).run P w = .ok (if ok then .tuple #[v, .bool b] else v) w := by
    intro v b hq
    unfold Instr.lookup
    rw [Sem.run_bind, run_underlying hu]
    simp only [Result.andThen_ok]
    rcases hrun with ⟨hx, rfl⟩ | ⟨q, c, hx, hg⟩
    · simp only [hx, Sem.run_bind, hc, Sem.run_pure, h8, Result.andThen_ok, List.toList_toArray]
      rcases hq with ⟨⟨j, rfl⟩, rfl⟩ | ⟨rfl, rfl, hz⟩
      · rfl
      · simp only [Sem.run_bind, hz, Result.andThen_ok, Sem.run_pure]
    · simp only [hx, run_getMap hg, Sem.run_bind, hc, Sem.run_pure, h8, Result.andThen_ok, List.toList_toArray]
      rcases hq with ⟨⟨j, rfl⟩, rfl⟩ | ⟨rfl, rfl, hz⟩
      · rfl
      · simp only [Sem.run_bind, hz, Result.andThen_ok, Sem.run_pure]
  cases r with
  | some p =>
    obtain ⟨j, r⟩ := p
    obtain ⟨g1, e, g2, g3, g4, g5⟩ := h9.get
    have hf := full e.val true (.inl ⟨⟨j, g5⟩, rfl⟩)
    cases ok with
    | true =>
      cases h7
      exact goesV_pure hr (u := .tuple #[e.val, .bool true]) ⟨[e.val, .bool true], ⟨g3.2.2, rfl, trivial⟩, rfl⟩ hf
    | false =>
      cases h7
      exact goesV_pure hr (u := e.val) g3.2.2 hf
  | none =>
    simp only [Option.bind_eq_some_iff] at h7
    obtain ⟨z, g1, g2⟩ := h7
    obtain ⟨zv, g3, g4⟩ := zero2 (φ := φ) hi g1
    have hf := full zv false (.inr ⟨h9, rfl, run_zero hi g3 w⟩)
    cases ok with
    | true =>
      cases g2
      exact goesV_pure hr (u := .tuple #[zv, .bool false]) ⟨[zv, .bool false], ⟨g4, rfl, trivial⟩, rfl⟩ hf
    | false =>
      cases g2
      exact goesV_pure hr (u := zv) g4 hf

theorem putX_ok (hr : Rel φ s w) {b : Nat} {x y : XK} {p : Loc} {s' : St} (hb : s.xget b = some x) (hx : isBag x = false) (hp : φ b = some p) {o : Obj} (h : putX s b y = some s') (ho : HX φ p y o) :
    Out φ s w φ s' { w with heap := w.heap.setIfInBounds p.1 o } := putX_out hr hb hx hp h ho

theorem modify_same {es : List MapEntry} {j : Nat} {e : MapEntry} (he : es[j]? = some e) : es.modify j (fun f => { f with key := e.key }) = es := by
  apply List.ext_getElem?
  intro i
  rw [List.getElem?_modify]
  by_cases hij : j = i
  · subst hij; rw [he]; simp
  · simp [hij]
theorem modify_key {es : List MapEntry} {j : Nat} {e : MapEntry} (he : es[j]? = some e) (v : Value) : es.modify j (fun f => { f with key := e.key, val := v }) = es.modify j (fun f => { f with val := v }) := by
  apply List.ext_getElem?
  intro i
  rw [List.getElem?_modify, List.getElem?_modify]
  by_cases hij : j = i
  · subst hij; rw [he]; simp
  · simp [hij]

theorem findRow_eq {k : TV} : ∀ {rows : List Row} {i j : Nat} {r : Row}, findRow k rows i = some (some (j, r)) → eqTV k r.2.1 = some true
  | [], i, j, r, h => by simp [findRow] at h
  | x :: rows, i, j, r, h => by
    simp only [findRow, Option.bind_eq_some_iff] at h
    obtain ⟨b, h3, h4⟩ := h
    cases b
    · exact findRow_eq h4
    · cases h4; exact h3

theorem upd_ok (E : Env P ty held) {t : Nat} {x k v : Operand} {a : AV} {s' : St} (hr : Rel φ s w) (ht : TR φ T ρ) (h : updE ty held t x k v T s = some (a, s')) : Goes P φ s w (do Instr.mapUpdate t (ρ x) (ρ k) (ρ v); pure .skip) a s' := by
  simp only [updE, Option.bind_eq_some_iff, chk_some] at h
  obtain ⟨m, h1, xc, h2, b, h3, p, h4, kt, h5, vt, h6, h7, r, h8, s1, h9, h10⟩ := h
  cases h10
  obtain ⟨hu, hku, i, hi⟩ := mapTy_some E h1
  have hx := ht.c h2
  rw [mapOf_some h3] at hx
  obtain ⟨q, es, g1, g2, g3⟩ := map_at hr h4
  obtain ⟨q', hq', hx⟩ := hx
  rw [g1] at hq'; cases hq'
  have hk := ht.t h5
  have hv := ht.t h6
  obtain ⟨mm, g4, g5⟩ := find_ok (w := w) E hku hk h7 g3 h8
  have hc := check_ok (P := P) (w := w) E hku hk h7
  have base : ∀ o, (match mm with
      | some (i, _) => do
        let key ← Instr.keyThatStays (((es.toArray[i]?).map (·.key)).getD (ρ k)) (ρ k)
        setObj q.1 (.map (es.toArray.modify i fun e => { e with key, val := ρ v }) p.2)
      | none => setObj q.1 (.map (es.toArray.push { key := ρ k, val := ρ v, born := p.2 }) (p.2 + 1)) : Sem Unit).run P w = .ok () { w with heap := w.heap.setIfInBounds q.1 o } →
      (do Instr.mapUpdate t (ρ x) (ρ k) (ρ v); pure .skip : Sem Next).run P w = .ok .skip { w with heap := w.heap.setIfInBounds q.1 o } := by
    intro o hq
    unfold Instr.mapUpdate
    simp only [Sem.run_bind, run_underlying hu, Result.andThen_ok, hx, run_getMap g2, hc, List.toList_toArray, g4, Sem.run_pure]
    cases mm with
    | none => rw [hq]; rfl
    | some z => obtain ⟨i, z⟩ := z; simp only [Sem.run_bind] at hq ⊢; rw [hq]; rfl
  cases r with
  | none =>
    have g5 : mm = none := g5
    subst g5
    refine ⟨φ, _, undef, putX_ok hr (mget_some h4) rfl g1 h9 (o := .map (es ++ [(⟨ρ k, ρ v, p.2⟩ : MapEntry)]).toArray (p.2 + 1)) ⟨_, rfl, Rows.add ⟨rfl, hk, hv⟩ g3⟩, ⟨[], trivial, rfl⟩, .inr ⟨base _ ?_, rfl⟩⟩
    rw [run_setMap _ g2]
    simp
  | some pr =>
    obtain ⟨j, r⟩ := pr
    obtain ⟨f1, e, f2, f3, f4, f5⟩ := g5.get
    subst f5
    have hsb := same_key (findRow_eq h8) hk
    refine ⟨φ, _, undef, putX_ok hr (mget_some h4) rfl g1 h9 (o := .map (es.modify j fun f => { f with val := ρ v }).toArray p.2) ⟨_, rfl, Rows.set hv j g3⟩, ⟨[], trivial, rfl⟩, .inr ⟨base _ ?_, rfl⟩⟩
    have he : es.toArray[j]? = some e := by simpa using f2
    simp only [he, Option.map_some, Option.getD_some, f4, Instr.keyThatStays, hsb, if_true, Sem.run_bind, Sem.run_pure, Result.andThen_ok]
    rw [run_setMap _ g2]
    have := modify_key f2 (ρ v)
    rw [f4] at this
    rw [← this]
    simp

theorem ent_ok (E : Env P ty held) {t : Nat} {x k : Operand} {a : AV} {s' : St} (hr : Rel φ s w) (ht : TR φ T ρ) (h : entE ty held t x k T s = some (a, s')) : GoesV P φ s w (Instr.mapEntry t (ρ x) (ρ k)) a s' := by
  simp only [entE, Option.bind_eq_some_iff, chk_some] at h
  obtain ⟨m, h1, xc, h2, b, h3, p, h4, kt, h5, h7, r, h8, h9⟩ := h
  obtain ⟨hu, hku, i, hi⟩ := mapTy_some E h1
  have hx := ht.c h2
  rw [mapOf_some h3] at hx
  obtain ⟨q, es, g1, g2, g3⟩ := map_at hr h4
  obtain ⟨q', hq', hx⟩ := hx
  rw [g1] at hq'; cases hq'
  have hk := ht.t h5
  obtain ⟨mm, g4, g5⟩ := find_ok (w := w) E hku hk h7 g3 h8
  have hc := check_ok (P := P) (w := w) E hku hk h7
  cases r with
  | none =>
    simp only [Option.bind_eq_some_iff] at h9
    obtain ⟨z, k1, s1, k2, k3⟩ := h9
    cases k3
    have g5 : mm = none := g5
    subst g5
    obtain ⟨zv, k4, k5⟩ := zero2 (φ := φ) hi k1
    have hz := fun w => run_zero hi k4 w
    refine ⟨φ, _, .tuple #[zv, goInt p.2], putX_ok hr (mget_some h4) rfl g1 k2 (o := .map (es ++ [(⟨ρ k, zv, p.2⟩ : MapEntry)]).toArray (p.2 + 1)) ⟨_, rfl, Rows.add ⟨rfl, hk, k5⟩ g3⟩, ⟨[zv, goInt p.2], ⟨k5, rfl, trivial⟩, rfl⟩, ?_⟩
    unfold Instr.mapEntry
    simp only [Sem.run_bind, run_underlying hu, Result.andThen_ok, hx, run_getMap g2, hc, List.toList_toArray, g4, Sem.run_pure, hz, run_setMap _ g2]
    simp
  | some pr =>
    obtain ⟨j, r⟩ := pr
    cases h9
    obtain ⟨f1, e, f2, f3, f4, f5⟩ := g5.get
    subst f5
    have hsb := same_key (findRow_eq h8) hk
    have he : es.toArray[j]? = some e := by simpa using f2
    have hsame : ({ w with heap := w.heap.setIfInBounds q.1 (.map es.toArray p.2) } : World) = w := by
      have : w.heap.setIfInBounds q.1 (.map es.toArray p.2) = w.heap := by
        apply Array.ext_getElem?
        intro i
        rw [Array.getElem?_setIfInBounds]
        split
        · rename_i h; subst h; rw [g2]; simp [(Array.getElem?_eq_some_iff.1 g2).1]
        · rfl
      rw [this]
    refine goesV_pure hr (u := .tuple #[e.val, goInt e.born]) ⟨[e.val, goInt e.born], ⟨f3.2.2, by rw [f3.1]; rfl, trivial⟩, rfl⟩ ?_
    unfold Instr.mapEntry
    simp only [Sem.run_bind, run_underlying hu, Result.andThen_ok, hx, run_getMap g2, hc, List.toList_toArray, g4, Sem.run_pure, he, Option.map_some, Option.getD_some, f4, Instr.keyThatStays, hsb, if_true, run_setMap _ g2]
    have hm := modify_same f2
    rw [f4] at hm
    have hm' : es.toArray.modify j (fun f => { f with key := ρ k }) = es.toArray := by
      apply Array.ext'
      simpa using hm
    rw [hm', hsame]
end
section
variable {P : Program} {ty : Nat → Option TI} {held : Nat → Bool} {φ : Mp} {s : St} {w : World} {T : TM} {ρ : Operand → Value}

theorem bornAt_ok {n : Nat} : ∀ {rows : List Row} {es : List MapEntry} {i j : Nat}, Rows φ rows es → bornAt n rows i = some j → i ≤ j ∧ es.findIdx? (fun e => (e.born : Int) == (n : Int)) = some (j - i)
  | [], [], i, j, _, h => by simp [bornAt] at h
  | x :: rows, e :: es, i, j, ⟨h1, h2⟩, h => by
    unfold bornAt at h
    rw [List.findIdx?_cons]
    have hb : ((e.born : Int) == (n : Int)) = Nat.beq x.1 n := by
      rw [h1.1, Bool.eq_iff_iff]
      simp only [beq_iff_eq, Nat.beq_eq]
      omega
    rw [hb]
    split at h
    · rename_i hx; cases h; rw [hx]; exact ⟨Nat.le_refl _, by simp⟩
    · rename_i hx
      rw [hx]
      obtain ⟨g1, g2⟩ := bornAt_ok h2 h
      rw [g2]
      exact ⟨by omega, by simp; omega⟩

theorem est_ok {t : Nat} {x st v : Operand} {a : AV} {s' : St} (hr : Rel φ s w) (ht : TR φ T ρ) (h : estE x st v T s = some (a, s')) : Goes P φ s w (do Instr.entryStore t (ρ x) (ρ st) (ρ v); pure .skip) a s' := by
  simp only [estE, Option.bind_eq_some_iff] at h
  obtain ⟨xc, h2, b, h3, p, h4, nv, h5, n, h6, vt, h7, j, h8, s1, h9, h10⟩ := h
  cases h10
  have hx := ht.c h2
  rw [mapOf_some h3] at hx
  obtain ⟨q, es, g1, g2, g3⟩ := map_at hr h4
  obtain ⟨q', hq', hx⟩ := hx
  rw [g1] at hq'; cases hq'
  obtain ⟨k, rfl⟩ := natOf_some h6
  have hn : ρ st = _ := ht.c h5
  have hv := ht.t h7
  obtain ⟨_, hf⟩ := bornAt_ok g3 h8
  refine ⟨φ, _, undef, putX_ok hr (mget_some h4) rfl g1 h9 (o := .map (es.modify j fun f => { f with val := ρ v }).toArray p.2) ⟨_, rfl, Rows.set hv j g3⟩, ⟨[], trivial, rfl⟩, .inr ⟨?_, rfl⟩⟩
  have hf' : es.toArray.findIdx? (fun e => (e.born : Int) == (n : Int)) = some j := by simpa using hf
  unfold Instr.entryStore
  simp only [Sem.run_bind, hx, run_getMap g2, Result.andThen_ok, hn, asInt, asIntOf, Sem.run_pure, Int.ofNat_eq_natCast, hf', run_setMap _ g2]
  simp

theorem make_ok (E : Env P ty held) {t : Nat} {r : Option Operand} {c : CV} {s' : St} (hr : Rel φ s w) (ht : TR φ T ρ) (h : makeE ty t r T s = some (c, s')) : GoesV P φ s w (Instr.makeMap t (r.map ρ)) (.v (.c c)) s' := by
  simp only [makeE, Option.bind_eq_some_iff] at h
  obtain ⟨m, h1, n, h2, q, h3, h4⟩ := h
  cases h4
  obtain ⟨hu, _⟩ := mapTy_some E h1
  obtain ⟨φ', g1, g2⟩ := newX hr (b := q.1) (s' := q.2) (x := .map [] 0) (o := .map #[] 0) (fun _ => ⟨[], rfl, trivial⟩) h3
  refine ⟨φ', _, .map (some w.heap.size), g1, ⟨_, g2, rfl⟩, ?_⟩
  unfold Instr.makeMap
  have hb := bnd_ok ht h2
  cases r with
  | none => simp only [Option.map_none, newObj, Sem.run_bind, Sem.run, Result.andThen_ok, Sem.run_pure]; rfl
  | some x =>
    cases n with
    | none => exact hb.elim
    | some n =>
      obtain ⟨k, hk⟩ := hb
      simp only [Option.map_some, Sem.run_bind, run_underlying hu, Result.andThen_ok, hk, asInt, asIntOf, Sem.run_pure]
      simp only [newObj, Sem.run, Result.andThen_ok, Sem.run_pure]
      rfl

theorem range_ok (E : Env P ty held) {t : Nat} {x : Operand} {c : CV} {s' : St} (hr : Rel φ s w) (ht : TR φ T ρ) (h : rangeE ty t x T s = some (c, s')) : GoesV P φ s w (Instr.range t (ρ x)) (.v (.c c)) s' := by
  simp only [rangeE, Option.bind_eq_some_iff] at h
  obtain ⟨m, h1, xc, h2, i, h3, q, h4, h5⟩ := h
  cases h5
  obtain ⟨hu, _⟩ := mapTy_some E h1
  have hx := ht.c h2
  have fin : ∀ o, (∀ p, HX φ p i o) → (match ρ x with
      | .map none => pure (.mapIter none 0 #[] 0)
      | .map (some m) => do
        let .map _ clock ← getObj m | stuck "Range: map expected"
        pure (.mapIter (some m) clock #[] clock)
      | _ => stuck "Range: string or map expected" : Sem Obj).run P w = .ok o w → (Instr.range t (ρ x)).run P w = .ok (.pointer (some ⟨w.heap.size, 0, none⟩)) (w.alloc o) →
      GoesV P φ s w (Instr.range t (ρ x)) (.v (.c (.ptr q.1 0))) q.2 := by
    intro o ho _ hrun
    obtain ⟨φ', g1, g2⟩ := newX hr (b := q.1) (s' := q.2) ho h4
    exact ⟨φ', _, .pointer (some ⟨w.heap.size, 0, none⟩), g1, ⟨_, g2, rfl⟩, hrun⟩
  unfold iterOf at h3
  split at h3
  · cases h3
    have hx : ρ x = _ := hx
    refine fin (.mapIter none 0 #[] 0) (fun _ => ⟨none, rfl, rfl⟩) (by rw [hx]; rfl) ?_
    unfold Instr.range
    simp only [Sem.run_bind, run_underlying hu, Result.andThen_ok, hx, Sem.run_pure]
    simp only [newObj, Sem.run, Result.andThen_ok, Sem.run_pure]
    rfl
  · rename_i b
    simp only [Option.bind_eq_some_iff] at h3
    obtain ⟨p, g1, g2⟩ := h3
    cases g2
    obtain ⟨q1, es, g3, g4, g5⟩ := map_at hr g1
    obtain ⟨q', hq', hx⟩ := hx
    rw [g3] at hq'; cases hq'
    refine fin (.mapIter (some q1.1) p.2 #[] p.2) (fun _ => ⟨some q1.1, ⟨q1, g3, rfl⟩, rfl⟩) (by rw [hx]; simp only [Sem.run_bind, run_getMap g4, Result.andThen_ok, Sem.run_pure]) ?_
    unfold Instr.range
    simp only [Sem.run_bind, run_underlying hu, Result.andThen_ok, hx, Sem.run_pure, run_getMap g4]
    simp only [newObj, Sem.run, Result.andThen_ok, Sem.run_pure]
    rfl
  · cases h3

theorem memB_eq (n : Nat) : ∀ l : List Nat, memB n l = l.contains n
  | [] => rfl
  | x :: l => by
    unfold memB
    rw [List.contains_cons]
    split
    · rename_i h; have := Nat.eq_of_beq_eq_true h; subst this; simp
    · rename_i h
      have : (n == x) = false := by simpa using fun e => beq_ne h e.symm
      rw [this, Bool.false_or]
      exact memB_eq n l

theorem leftR_ok {seen : List Nat} : ∀ {rows : List Row} {es : List MapEntry}, Rows φ rows es → Rows φ (leftR seen rows) (es.filter fun e => !seen.toArray.contains e.born)
  | [], [], _ => trivial
  | x :: rows, e :: es, ⟨h1, h2⟩ => by
    unfold leftR
    have hb : seen.toArray.contains e.born = memB x.1 seen := by rw [memB_eq, h1.1]; simp
    rw [List.filter_cons, hb]
    split
    · rename_i h; rw [h]; exact leftR_ok h2
    · rename_i h; rw [h]; exact ⟨h1, leftR_ok h2⟩

theorem allGe_ok {n : Nat} : ∀ {rows : List Row} {es : List MapEntry}, Rows φ rows es → allGe n rows = es.all (fun e => decide (e.born ≥ n))
  | [], [], _ => rfl
  | x :: rows, e :: es, ⟨h1, h2⟩ => by
    unfold allGe
    rw [List.all_cons, allGe_ok h2, h1.1]
    congr 1
    rw [Bool.eq_iff_iff, Nat.ble_eq, decide_eq_true_iff]

theorem lost_ok {seen : List Nat} {last : Nat} {rows : List Row} {es : List MapEntry} (h : Rows φ rows es) : lostB seen last rows = (!seen.toArray.isEmpty && !es.toArray.isEmpty && es.toArray.all (·.born ≥ last)) := by
  unfold lostB
  rw [allGe_ok h]
  have h1 : nullB seen = seen.toArray.isEmpty := by cases seen <;> simp [nullB]
  have h2 : nullB rows = es.toArray.isEmpty := by
    cases rows with
    | nil => cases es with
      | nil => rfl
      | cons _ _ => exact h.elim
    | cons _ _ => cases es with
      | nil => exact h.elim
      | cons _ _ => simp [nullB]
  rw [h1, h2, Bool.and_assoc]
  simp

theorem run_next_some {r m since last clock : Nat} {seen : Array Nat} {es : Array MapEntry} {e : MapEntry} {tt : TypeId} (hi : w.heap[r]? = some (.mapIter (some m) since seen last)) (hm : w.heap[m]? = some (.map es clock))
    (hl : (!seen.isEmpty && !es.isEmpty && es.all (·.born ≥ last)) = false) (he : es.filter (fun e => !seen.contains e.born) = #[e]) (hs : e.born < since) :
    (Instr.next (.pointer (some ⟨r, 0, none⟩)) false tt).run P w = .ok (.tuple #[.bool true, e.key, e.val]) { w with heap := w.heap.setIfInBounds r (.mapIter (some m) since (seen.push e.born) clock) } := by
  have h1 : (#[e] : Array MapEntry).filter (fun e => decide (e.born < since)) = #[e] := by simp [hs]
  have h2 : (#[e] : Array MapEntry).filter (fun e => decide (e.born ≥ since)) = #[] := by simp; omega
  unfold Instr.next
  simp only [Sem.run_bind, run_getIter hi, run_getMap hm, Result.andThen_ok, hl, Bool.false_eq_true, if_false, he, h1, h2]
  simp [choose, Sem.run, Question.forced, run_setIter _ hi, Sem.run_bind]

theorem run_next_none {r m since last clock : Nat} {seen : Array Nat} {es : Array MapEntry} {tt : TypeId} (hi : w.heap[r]? = some (.mapIter (some m) since seen last)) (hm : w.heap[m]? = some (.map es clock))
    (hl : (!seen.isEmpty && !es.isEmpty && es.all (·.born ≥ last)) = false) (he : es.filter (fun e => !seen.contains e.born) = #[]) :
    (Instr.next (.pointer (some ⟨r, 0, none⟩)) false tt).run P w = .ok (.tuple #[.bool false]) w := by
  unfold Instr.next
  simp only [Sem.run_bind, run_getIter hi, run_getMap hm, Result.andThen_ok, hl, Bool.false_eq_true, if_false, he]
  simp [choose, Sem.run, Question.forced, Sem.run_bind]

theorem next_ok {x : Operand} {str : Bool} {v : AV} {s' : St} {tt : TypeId} (hr : Rel φ s w) (ht : TR φ T ρ) (h : nextE x str T s = some (v, s')) : GoesV P φ s w (Instr.next (ρ x) str tt) v s' := by
  simp only [nextE, chk_some, Option.bind_eq_some_iff] at h
  obtain ⟨h1, xc, h2, p, h3, h4⟩ := h
  have hx := ht.c h2
  rw [ptrOf_some h3] at hx
  simp only [nextAt, chk_some, Option.bind_eq_some_iff] at h4
  obtain ⟨h5, xk, h6, i, h7, h8⟩ := h4
  have h5 := Nat.eq_of_beq_eq_true h5
  rw [iterX_some h7] at h6
  obtain ⟨q, o, g1, g2, g3, r, g4, rfl⟩ := hr.xblk h6
  obtain ⟨q', hq', hx⟩ := hx
  rw [g1] at hq'; cases hq'
  rw [h5, g3 rfl] at hx
  have hx : ρ x = .pointer (some ⟨q.1, 0, none⟩) := hx
  have hstr : str = false := by simpa using h1
  subst hstr
  obtain ⟨im, isince, iseen, ilast⟩ := i
  simp only at h8 g4 g2 h6
  cases im with
  | none =>
    cases h8
    have g4 : r = none := g4
    subst g4
    refine goesV_pure hr (u := .tuple #[.bool false]) ⟨[.bool false], ⟨rfl, trivial⟩, rfl⟩ ?_
    rw [hx]
    unfold Instr.next
    simp only [Sem.run_bind, run_getIter g2, Result.andThen_ok]
    rfl
  | some m =>
    simp only [Option.bind_eq_some_iff, chk_some, Bool.not_eq_true'] at h8
    obtain ⟨pm, k1, k2, rr, k3, k4⟩ := h8
    obtain ⟨mq, hmq, rfl⟩ := g4
    obtain ⟨q2, es, f1, f2, f3⟩ := map_at hr k1
    rw [hmq] at f1; cases f1
    have hl := lost_ok (seen := iseen) (last := ilast) f3
    rw [k2] at hl
    have hleft := leftR_ok (seen := iseen) f3
    rw [hx]
    cases rr with
    | none =>
      cases k4
      have hlr : leftR iseen pm.1 = [] := by
        unfold pickNext at k3
        split at k3
        · rename_i e; exact e
        · rw [chk_some] at k3; cases k3.2
        · cases k3
      rw [hlr] at hleft
      have he : es.toArray.filter (fun e => !iseen.toArray.contains e.born) = #[] := by
        apply Array.ext'
        rw [Array.toList_filter]
        cases hf : es.filter (fun e => !iseen.toArray.contains e.born) with
        | nil => simpa using hf
        | cons _ _ => rw [hf] at hleft; exact hleft.elim
      exact goesV_pure hr (u := .tuple #[.bool false]) ⟨[.bool false], ⟨rfl, trivial⟩, rfl⟩ (run_next_none g2 f2 hl.symm he)
    | some r =>
      simp only [Option.bind_eq_some_iff] at k4
      obtain ⟨s1, k5, k6⟩ := k4
      cases k6
      have hlr : leftR iseen pm.1 = [r] ∧ r.1 < isince := by
        unfold pickNext at k3
        split at k3
        · cases k3
        · rename_i e
          rw [chk_some, Nat.blt_eq] at k3
          obtain ⟨k3, k7⟩ := k3
          cases k7
          exact ⟨e, k3⟩
        · cases k3
      rw [hlr.1] at hleft
      obtain ⟨e, he, hre⟩ : ∃ e, es.filter (fun e => !iseen.toArray.contains e.born) = [e] ∧ RowIs φ r e := by
        cases hf : es.filter (fun e => !iseen.toArray.contains e.born) with
        | nil => rw [hf] at hleft; exact hleft.elim
        | cons e l =>
          rw [hf] at hleft
          cases l with
          | nil => exact ⟨e, rfl, hleft.1⟩
          | cons _ _ => exact hleft.2.elim
      have he' : es.toArray.filter (fun e => !iseen.toArray.contains e.born) = #[e] := by
        apply Array.ext'
        rw [Array.toList_filter]
        simpa using he
      have hrun := run_next_some (P := P) (tt := tt) g2 f2 hl.symm he' (by rw [hre.1]; exact hlr.2)
      refine ⟨φ, _, .tuple #[.bool true, e.key, e.val], putX_ok hr h6 rfl g1 k5 (o := .mapIter (some mq.1) isince (iseen.toArray.push e.born) pm.2) ⟨some mq.1, ⟨mq, hmq, rfl⟩, ?_⟩, ⟨[.bool true, e.key, e.val], ⟨rfl, hre.2.1, hre.2.2, trivial⟩, rfl⟩, hrun⟩
      rw [hre.1]
      simp [snocN]

theorem lastN_ok : ∀ {l : List Nat} {n : Nat}, lastN l = some n → l.toArray.back? = some n
  | [], n, h => by simp [lastN] at h
  | [x], n, h => by simp [lastN] at h; subst h; simp
  | x :: y :: l, n, h => by
    have := lastN_ok (l := y :: l) (by simpa [lastN] using h)
    simpa using this

theorem bornRow_ok {n : Nat} : ∀ {rows : List Row} {es : List MapEntry} {r : Row}, Rows φ rows es → bornRow n rows = some r → ∃ e, es.find? (fun e => e.born == n) = some e ∧ RowIs φ r e
  | [], [], r, _, h => by simp [bornRow] at h
  | x :: rows, e :: es, r, ⟨h1, h2⟩, h => by
    unfold bornRow at h
    rw [List.find?_cons]
    have hb : (e.born == n) = Nat.beq x.1 n := by rw [h1.1, Bool.eq_iff_iff]; simp
    rw [hb]
    split at h
    · rename_i hx; cases h; rw [hx]; exact ⟨e, rfl, h1⟩
    · rename_i hx; rw [hx]; exact bornRow_ok h2 h

theorem entry_ok {x : Operand} {v : AV} (hr : Rel φ s w) (ht : TR φ T ρ) (h : entryE x T s = some v) : GoesV P φ s w (Instr.entry (ρ x)) v s := by
  simp only [entryE, Option.bind_eq_some_iff] at h
  obtain ⟨xc, h2, p, h3, h4⟩ := h
  have hx := ht.c h2
  rw [ptrOf_some h3] at hx
  simp only [entryAt, chk_some, Option.bind_eq_some_iff] at h4
  obtain ⟨h5, xk, h6, i, h7, m, h8, st, h9, pm, h10, h11, r, h12, h13⟩ := h4
  cases h13
  have h5 := Nat.eq_of_beq_eq_true h5
  have h11 := Nat.eq_of_beq_eq_true h11
  rw [iterX_some h7] at h6
  obtain ⟨q, o, g1, g2, g3, rr, g4, rfl⟩ := hr.xblk h6
  obtain ⟨q', hq', hx⟩ := hx
  rw [g1] at hq'; cases hq'
  rw [h5, g3 rfl] at hx
  have hx : ρ x = .pointer (some ⟨q.1, 0, none⟩) := hx
  rw [h8] at g4
  obtain ⟨mq, hmq, rfl⟩ := g4
  obtain ⟨q2, es, f1, f2, f3⟩ := map_at hr h10
  rw [hmq] at f1; cases f1
  obtain ⟨e, he, hre⟩ := bornRow_ok f3 h12
  refine goesV_pure hr (u := .tuple #[e.key, e.val]) ⟨[e.key, e.val], ⟨hre.2.1, hre.2.2, trivial⟩, rfl⟩ ?_
  rw [hx]
  unfold Instr.entry
  have he' : es.toArray.find? (fun e => e.born == st) = some e := by simpa using he
  have hlast := lastN_ok h9
  simp only [Sem.run_bind, run_getIter g2, Result.andThen_ok, hlast, run_getMap f2, h11, bne_self_eq_false, Bool.false_eq_true, if_false, he', Sem.run_pure]

theorem del_ok (E : Env P ty held) {t : Nat} {ts : Array Nat} {tt : Nat} {x k : Operand} {a : AV} {s' : St} (hr : Rel φ s w) (ht : TR φ T ρ) (hts : ts[0]? = some t) (h : delE ty held t x k T s = some (a, s')) : GoesV P φ s w (Builtin.delete_ ts tt #[ρ x, ρ k]) a s' := by
  simp only [delE, Option.bind_eq_some_iff, chk_some] at h
  obtain ⟨m, h1, xc, h2, b, h3, p, h4, kt, h5, h7, r, h8, s1, h9, h10⟩ := h
  cases h10
  obtain ⟨hu, hku, i, hi⟩ := mapTy_some E h1
  have hx := ht.c h2
  rw [mapOf_some h3] at hx
  obtain ⟨q, es, g1, g2, g3⟩ := map_at hr h4
  obtain ⟨q', hq', hx⟩ := hx
  rw [g1] at hq'; cases hq'
  have hk := ht.t h5
  obtain ⟨mm, g4, g5⟩ := find_ok (w := w) E hku hk h7 g3 h8
  have hc := check_ok (P := P) (w := w) E hku hk h7
  cases r with
  | none =>
    have g5 : mm = none := g5
    subst g5
    refine ⟨φ, _, .tuple #[], putX_ok hr (mget_some h4) rfl g1 h9 (o := .map es.toArray p.2) ⟨_, rfl, g3⟩, ⟨[], trivial, rfl⟩, ?_⟩
    unfold Builtin.delete_
    simp [hts, Sem.run_bind, run_underlying hu, hx, run_getMap g2, hc, g4, run_setMap _ g2]
  | some pr =>
    obtain ⟨j, r⟩ := pr
    obtain ⟨f1, e, f2, f3, f4, f5⟩ := g5.get
    subst f5
    refine ⟨φ, _, .tuple #[], putX_ok hr (mget_some h4) rfl g1 h9 (o := .map (es.eraseIdx j).toArray p.2) ⟨_, rfl, Rows.erase j g3⟩, ⟨[], trivial, rfl⟩, ?_⟩
    have hlt : j < es.length := (List.getElem?_eq_some_iff.1 f2).1
    unfold Builtin.delete_
    simp [hts, Sem.run_bind, run_underlying hu, hx, run_getMap g2, hc, g4, run_setMap _ g2, hlt]

theorem clear_ok (E : Env P ty held) {t : Nat} {ts : Array Nat} {tt : Nat} {x : Operand} {a : AV} {s' : St} (hr : Rel φ s w) (ht : TR φ T ρ) (hts : ts[0]? = some t) (h : clearE ty t x T s = some (a, s')) : GoesV P φ s w (Builtin.clear_ ts tt #[ρ x]) a s' := by
  simp only [clearE, Option.bind_eq_some_iff] at h
  obtain ⟨p, h1, c, h2, n, h3, z, h4, h5⟩ := h
  obtain ⟨hu, i, hi⟩ := sliceTy_some E h1
  have hx := ht.c h2
  split at h5
  · rename_i hn
    have hn := Nat.eq_of_beq_eq_true hn
    subst hn
    cases h5
    refine goesV_pure hr (u := .tuple #[]) ⟨[], trivial, rfl⟩ ?_
    have : (∃ q c', ρ x = .slice (some q) 0 c') ∨ ρ x = .slice none 0 0 := by
      unfold lenOfSlice at h3
      split at h3
      · exact .inr hx
      · obtain ⟨q, _, a, _, hx⟩ := hx; exact .inl ⟨_, _, hx⟩
      · rename_i b o n' cp
        cases h3
        cases cp <;> (obtain ⟨q, _, hx⟩ := hx; exact .inl ⟨_, _, hx⟩)
      · cases h3
    unfold Builtin.clear_
    rcases this with ⟨q, c', hx⟩ | hx <;> simp [hts, Sem.run_bind, run_underlying hu, hx]
  · rename_i hn
    have hn := beq_ne hn
    simp only [chk_some, Nat.beq_eq] at h5
    obtain ⟨hzl, h5⟩ := h5
    unfold clearS at h5
    split at h5
    · rename_i b o n' cp
      simp only [lenOfSlice, Option.some.injEq] at h3
      subst h3
      simp only [Option.bind_eq_some_iff] at h5
      obtain ⟨⟨v1, s1⟩, h6, h7⟩ := h5
      cases h7
      obtain ⟨zv, z1, z2⟩ := zero_ok (φ := φ) hi h4
      obtain ⟨q, c', hq, hx⟩ : ∃ q c', φ b = some q ∧ ρ x = .slice (some ⟨q.1, q.3 + o, none⟩) n' c' := by
        cases cp <;> (obtain ⟨q, hq, hx⟩ := hx; exact ⟨q, _, hq, hx⟩)
      have hz : VL φ (rep z n') (Builtin.zeroCells zv.cells n').toList := by rw [zeroCells_eq]; exact VL.rep n' z2
      obtain ⟨_, o1, o2⟩ := overE_ok hr hq hz h6
      refine ⟨φ, _, .tuple #[], o1, ⟨[], trivial, rfl⟩, ?_⟩
      have hst := run_storeCells_cells (P := P) q.1 (q.3 + o) (Builtin.zeroCells zv.cells n').toList 0 w (fun j hj => by simpa using (o2 j hj).1) (fun j hj => by simpa using (o2 j hj).2) hz.one
      simp only [Nat.add_zero] at hst
      have hz0 := run_zero hi z1 w
      unfold Builtin.clear_
      cases n' with
      | zero => exact absurd rfl hn
      | succ n' => simp only [hts, List.getElem?_toArray, List.getElem?_cons_zero, Sem.run_bind, run_underlying hu, hx, Result.andThen_ok, hz0, hst, Sem.run_pure]
    · cases h5

theorem lenM_ok (E : Env P ty held) {t : Nat} {ts : Array Nat} {tt : Nat} {x : Operand} {a : AV} {s' : St} (hr : Rel φ s w) (ht : TR φ T ρ) (hts : ts[0]? = some t) (h : lenM ty t x T s = some (a, s')) : GoesV P φ s w (Builtin.len_ ts tt #[ρ x]) a s' := by
  simp only [lenM, Option.bind_eq_some_iff] at h
  obtain ⟨m, h1, c, h2, rows, h3, h4⟩ := h
  cases h4
  obtain ⟨hu, _⟩ := mapTy_some E h1
  have hx := ht.c h2
  refine goesV_pure hr (u := .int .i64 (.ofNat rows.length)) rfl ?_
  unfold rowsOf at h3
  unfold Builtin.len_
  split at h3
  · cases h3
    have hx : ρ x = _ := hx
    simp [hts, Sem.run_bind, run_underlying hu, hx, goInt]
  · simp only [Option.bind_eq_some_iff] at h3
    obtain ⟨p, g1, g2⟩ := h3
    cases g2
    obtain ⟨q1, es, g3, g4, g5⟩ := map_at hr g1
    obtain ⟨q', hq', hx⟩ := hx
    rw [g3] at hq'; cases hq'
    have := g5.length
    simp [hts, Sem.run_bind, run_underlying hu, hx, run_getMap g4, goInt, this]
  · cases h3
end
/-- rows that no number names are as they were -/
structure Kept (K : Nat → Option Obj) (φ : Mp) (w : World) : Prop where
  row : ∀ r o, K r = some o → w.heap[r]? = some o
  free : ∀ k p, φ k = some p → K p.1 = none

theorem Kept.lt {K : Nat → Option Obj} {φ : Mp} {w : World} (h : Kept K φ w) {r : Nat} {o : Obj} (hr : K r = some o) : r < w.heap.size := (Array.getElem?_eq_some_iff.1 (h.row r o hr)).1
theorem Kept.far {K : Nat → Option Obj} {φ φ' : Mp} {s : St} {w w' : World} (h : Kept K φ w) (he : Ext φ φ') (hkeep : ∀ r, r < w.heap.size → ¬ Seen φ s r → w'.heap[r]? = w.heap[r]?) (hnew : ∀ k p, φ k = none → φ' k = some p → w.heap.size ≤ p.1 ∨ Seen φ s p.1) : Kept K φ' w' := by
  have seen : ∀ r, Seen φ s r → K r = none := fun r ⟨k, B, p, h1, h2, h3⟩ => by rw [← h3]; exact h.free k p h2
  refine ⟨fun r o hr => ?_, fun k p hk => ?_⟩
  · rw [hkeep r (h.lt hr) (fun hs => by rw [seen r hs] at hr; cases hr)]
    exact h.row r o hr
  · cases h0 : φ k with
    | some q => have := he k q h0; rw [hk] at this; cases this; exact h.free k p h0
    | none =>
      rcases hnew k p h0 hk with h1 | h1
      · cases hK : K p.1 with
        | none => rfl
        | some o => have := h.lt hK; omega
      · exact seen _ h1
theorem Kept.out {K : Nat → Option Obj} {φ φ' : Mp} {s s' : St} {w w' : World} (h : Kept K φ w) (o : Out φ s w φ' s' w') : Kept K φ' w' := h.far o.ext o.keep o.new
theorem Kept.sub {K : Nat → Option Obj} {φ φ' : Mp} {w : World} (h : Kept K φ' w) (he : Ext φ φ') : Kept K φ w := ⟨h.row, fun k p hk => h.free k p (he k p hk)⟩

/-- what a call of a function does, where the evaluator has an answer -/
def CallOk (P : Program) (K : Nat → Option Obj) (call : CallF) : Prop := ∀ f l s v s', call f l s = some (v, s') → ∀ φ w (args : Array Value), Rel φ s w → Kept K φ w → VAs φ l args.toList →
  (callFunc f args).run P w = .ok (.enter f args) w ∧ Calls P f args w fun e w' => ∃ φ' u, Out φ s w φ' s' w' ∧ VA φ' v u ∧ e = .returned u

section
variable {P : Program} {ty : Nat → Option TI} {held : Nat → Bool} {call : CallF} {φ : Mp} {s : St} {w : World} {T : TM} {ρ : Operand → Value}

theorem evs_ok (ht : TR φ T ρ) : ∀ {l : List Operand} {r : List AV}, evs T l = some r → VAs φ r (l.map ρ)
  | [], r, h => by simp [evs] at h; subst h; trivial
  | x :: l, r, h => by
    simp only [evs, Option.bind_eq_some_iff] at h
    obtain ⟨v, h1, r', h2, h3⟩ := h
    cases h3
    exact ⟨ht x v h1, evs_ok ht h2⟩

theorem nth_ok {v : AV} {u : Value} {i : Nat} {r : TV} (hv : VA φ v u) (h : nthT v i = some r) : ∃ z, VT φ r z ∧ (Instr.extract u i).run P w = .ok z w := by
  unfold nthT at h
  split at h
  · obtain ⟨vs, h1, rfl⟩ := hv
    obtain ⟨z, h2, h3⟩ := h1.nth h
    exact ⟨z, h3, by simp [Instr.extract, h2]⟩
  · cases h

theorem lenOf_val {c : CV} {n : Nat} {u : Value} (h : lenOfSlice c = some n) (hv : VC φ c u) : ∃ a cp, u = .slice a n cp := by
  unfold lenOfSlice at h
  split at h
  · cases h; exact ⟨none, 0, hv⟩
  · cases h; obtain ⟨q, _, a, _, hx⟩ := hv; exact ⟨_, _, hx⟩
  · rename_i b o n' c
    cases h
    cases c <;> (obtain ⟨q, hq, hx⟩ := hv; exact ⟨_, _, hx⟩)
  · cases h

theorem min_ok {c c' r : CV} {u u' : Value} (h1 : VC φ c u) (h2 : VC φ c' u') (h : minE c c' = some r) (ts : Array Nat) (t : Nat) :
    ∃ z, VC φ r z ∧ (Builtin.min_ ts t #[u, u']).run P w = .ok z w := by
  unfold minE at h
  split at h
  · rename_i k a k' b
    have h1 : u = _ := h1; have h2 : u' = _ := h2
    subst h1; subst h2
    rw [ilt_eq] at h
    refine ⟨.int k (if b < a then b else a), ?_, by simp [Builtin.min_, Builtin.min2]⟩
    split at h
    · rename_i hb; rw [decide_eq_true_iff] at hb; cases h; rw [if_pos hb]; rfl
    · rename_i hb; rw [decide_eq_false_iff_not] at hb; cases h; rw [if_neg hb]; rfl
  · cases h

theorem max_ok {c c' r : CV} {u u' : Value} (h1 : VC φ c u) (h2 : VC φ c' u') (h : maxE c c' = some r) (ts : Array Nat) (t : Nat) :
    ∃ z, VC φ r z ∧ (Builtin.max_ ts t #[u, u']).run P w = .ok z w := by
  unfold maxE at h
  split at h
  · rename_i k a k' b
    have h1 : u = _ := h1; have h2 : u' = _ := h2
    subst h1; subst h2
    rw [ilt_eq] at h
    refine ⟨.int k (if b > a then b else a), ?_, by simp [Builtin.max_, Builtin.max2]⟩
    split at h
    · rename_i hb; rw [decide_eq_true_iff] at hb; cases h; rw [if_pos hb]; rfl
    · rename_i hb; rw [decide_eq_false_iff_not] at hb; cases h; rw [if_neg hb]; rfl
  · cases h

theorem builtin_ok (E : Env P ty held) {b : Builtin} {ts : Array Nat} {args : Array Operand} {t : Nat} {cs : Array Bool} {r : CV} {s' : St} (hr : Rel φ s w) (ht : TR φ T ρ) (h : bltE ty b ts.toList args.toList T s = some (r, s')) :
    Goes P φ s w (builtin b ts t cs (args.map ρ)) (.v (.c r)) s' := by
  unfold bltE at h
  split at h
  · rename_i x hargs
    have ha : args = #[x] := Array.ext' (by simpa using hargs)
    subst ha
    split at h
    · rename_i t' hts
      have hts' : ts = #[t'] := Array.ext' (by simpa using hts)
      subst hts'
      simp only [lenE, Option.bind_eq_some_iff, chk_some] at h
      obtain ⟨ti, h1, h2, v, h3, n, h4, h5⟩ := h
      cases h5
      obtain ⟨i, hi⟩ := E.of h1
      obtain ⟨a, cp, hx⟩ := lenOf_val h4 (ht.c h3)
      refine GoesV.goes (e := Builtin.len_ #[t'] t (#[x].map ρ)) (goesV_pure hr (u := .int .i64 (.ofNat n)) rfl ?_)
      have hu := hi.und
      unfold isSliceD at h2
      split at h2
      · rename_i e he
        rw [he] at hu
        simp [Builtin.len_, hx, run_underlying hu, goInt]
      · cases h2
    · cases h
  · rename_i x y hargs
    have ha : args = #[x, y] := Array.ext' (by simpa using hargs)
    subst ha
    split at h
    · rename_i t1 t2 hts
      have hts' : ts = #[t1, t2] := Array.ext' (by simpa using hts)
      subst hts'
      simp only [Option.bind_eq_some_iff] at h
      obtain ⟨u, h1, v, h2, h3⟩ := h
      have hx := ht.c h1
      have hy := ht.c h2
      have hm : (#[x, y] : Array Operand).map ρ = #[ρ x, ρ y] := by simp
      rw [hm]
      unfold blt2 at h3
      split at h3
      · simp only [Option.bind_eq_some_iff, chk_some, Nat.beq_eq] at h3
        obtain ⟨p, h4, ui, h5, z, h6, h7, h8, h9⟩ := h3
        exact GoesV.goes (e := Builtin.append_ #[t1, t2] t #[ρ x, ρ y]) (append_ok E hr hx hy h4 h5 h7 h6 h8 h9)
      · simp only [Option.bind_eq_some_iff] at h3
        obtain ⟨p, h4, h5⟩ := h3
        exact GoesV.goes (e := Builtin.copy_ #[t1, t2] t #[ρ x, ρ y]) (copy_ok E hr hx hy h4 rfl h5)
      · simp only [Option.bind_eq_some_iff] at h3
        obtain ⟨z, h4, h5⟩ := h3
        cases h5
        obtain ⟨q, h6, h7⟩ := min_ok (P := P) (w := w) hx hy h4 #[t1, t2] t
        exact GoesV.goes (e := Builtin.min_ #[t1, t2] t #[ρ x, ρ y]) (goesV_pure (v := .v (.c r)) hr h6 h7)
      · simp only [Option.bind_eq_some_iff] at h3
        obtain ⟨z, h4, h5⟩ := h3
        cases h5
        obtain ⟨q, h6, h7⟩ := max_ok (P := P) (w := w) hx hy h4 #[t1, t2] t
        exact GoesV.goes (e := Builtin.max_ #[t1, t2] t #[ρ x, ρ y]) (goesV_pure (v := .v (.c r)) hr h6 h7)
      · cases h3
    · cases h
  · cases h

theorem bltM_ok (E : Env P ty held) {b : Builtin} {ts : Array Nat} {args : Array Operand} {t : Nat} {cs : Array Bool} {v : AV} {s' : St} (hr : Rel φ s w) (ht : TR φ T ρ) (h : bltM ty held b ts.toList args.toList T s = some (v, s')) :
    Goes P φ s w (builtin b ts t cs (args.map ρ)) v s' := by
  unfold bltM at h
  split at h
  · rename_i x hargs
    have ha : args = #[x] := Array.ext' (by simpa using hargs)
    subst ha
    have hm : (#[x] : Array Operand).map ρ = #[ρ x] := by simp
    rw [hm]
    split at h
    · rename_i t' hts
      have hts' : ts = #[t'] := Array.ext' (by simpa using hts)
      subst hts'
      exact GoesV.goes (e := Builtin.len_ #[t'] t #[ρ x]) (lenM_ok E hr ht rfl h)
    · rename_i t' hts
      have hts' : ts = #[t'] := Array.ext' (by simpa using hts)
      subst hts'
      exact GoesV.goes (e := Builtin.clear_ #[t'] t #[ρ x]) (clear_ok E hr ht rfl h)
    · cases h
  · rename_i x y hargs
    have ha : args = #[x, y] := Array.ext' (by simpa using hargs)
    subst ha
    have hm : (#[x, y] : Array Operand).map ρ = #[ρ x, ρ y] := by simp
    rw [hm]
    split at h
    · rename_i t' l hts
      have hts' : ts[0]? = some t' := by rw [← Array.getElem?_toList, hts]; rfl
      exact GoesV.goes (e := Builtin.delete_ ts t #[ρ x, ρ y]) (del_ok E hr ht hts' h)
    · cases h
  · cases h

/-- from a yield to the walk's own form -/
theorem Goes.wp {o : Oper} {a : Act} {v : AV} {s' : St} {next : Act → World → Prop} {Q : Exit → Act → World → Prop} (h : Goes P φ s w (execOp a.eval o) v s')
    (hk : ∀ φ' w' u, Out φ s w φ' s' w' → VA φ' v u → next (a.put o.dst u) w') : o.wp P a w next Q := by
  obtain ⟨φ', w', u, h1, h2, h3⟩ := h
  unfold Oper.wp
  rcases h3 with h3 | ⟨h3, rfl⟩
  · rw [h3]; exact hk φ' w' u h1 h2
  · rw [h3]; exact hk φ' w' undef h1 h2

theorem goes_pure (hr : Rel φ s w) {e : Sem Next} {v : AV} {u : Value} (hv : VA φ v u) (h : e.run P w = .ok (.value u) w) : Goes P φ s w e v s :=
  ⟨φ, w, u, Out.refl hr, hv, .inl h⟩

theorem op_goes (E : Env P ty held) {o : Oper} {v : AV} {s' : St} (hr : Rel φ s w) (ht : TR φ T ρ) (hn : ∀ c, o.op ≠ .call c) (h : opE ty held call o.op T s = some (v, s')) : Goes P φ s w (execOp ρ o) v s' := by
  obtain ⟨dst, op, type, pos, after, guard⟩ := o
  simp only at h hn
  cases op with
  | move x => obtain ⟨h1, rfl⟩ := pkA_some.1 h; exact goes_pure hr (ht x v h1) rfl
  | assign x => obtain ⟨h1, rfl⟩ := pkA_some.1 h; exact goes_pure hr (ht x v h1) rfl
  | pick c a b =>
    simp only [opE, Option.bind_eq_some_iff] at h
    obtain ⟨cv, h1, bv, h2, h3⟩ := h
    obtain ⟨h4, rfl⟩ := pkA_some.1 h3
    have hc := ht.c h1
    rw [boolOf_some h2] at hc
    have hc : ρ c = .bool bv := hc
    cases bv
    · exact goes_pure hr (u := ρ b) (ht b v h4) (by simp [execOp, hc, asBool])
    · exact goes_pure hr (u := ρ a) (ht a v h4) (by simp [execOp, hc, asBool])
  | alloc t =>
    simp only [opE, Option.bind_eq_some_iff] at h
    obtain ⟨ti, h1, z, h2, h3⟩ := h
    exact (alloc_ok E hr h1 h2 h3).goes
  | box t x =>
    simp only [opE, Option.bind_eq_some_iff] at h
    obtain ⟨z, h1, h2⟩ := h
    exact (box_ok hr ht h1 h2).goes
  | build t parts =>
    simp only [opE, Option.bind_eq_some_iff] at h
    obtain ⟨ti, h1, z, h2, cs, h3, h4⟩ := h
    cases h4
    exact (build_ok E hr ht h1 h2 h3).goes
  | buildSlice t n parts =>
    obtain ⟨c, h1, rfl⟩ := pkS_some.1 h
    exact (buildSlice_ok E hr ht h1).goes
  | load t a => exact (load_ok E hr ht h).goes
  | store t a x => exact store_ok E hr ht h
  | nilCheck x =>
    simp only [opE, Option.bind_eq_some_iff] at h
    obtain ⟨c, h1, p, h2, h3⟩ := h
    cases h3
    have hx := ht.c h1
    rw [ptrOf_some h2] at hx
    have hx' := hx
    obtain ⟨q, hq, hx'⟩ := hx'
    refine goes_pure hr (u := ρ x) hx ?_
    simp [execOp, hx']
  | binOp op t x y t2 =>
    simp only [opE, Option.bind_eq_some_iff] at h
    obtain ⟨u, h1, u', h2, h3⟩ := h
    obtain ⟨c, h4, rfl, rfl⟩ := pkM_some.1 h3
    exact (bin_ok E hr (ht.t h1) (ht.t h2) h4).goes
  | unOp op t x =>
    simp only [opE, Option.bind_eq_some_iff] at h
    obtain ⟨u, h1, h3⟩ := h
    obtain ⟨c, h4, rfl, rfl⟩ := pkM_some.1 h3
    exact (un_ok hr (ht.c h1) h4).goes
  | convert src d x =>
    obtain ⟨c, h4, rfl, rfl⟩ := pkM_some.1 h
    exact (conv_ok E hr ht h4).goes
  | makeInterface t x =>
    obtain ⟨c, h4, rfl, rfl⟩ := pkM_some.1 h
    exact (iface_ok E hr ht h4).goes
  | makeFunc fn first captured =>
    obtain ⟨c, h4, rfl, rfl⟩ := pkM_some.1 h
    exact (func_ok hr ht h4).goes
  | makeSlice t l c =>
    obtain ⟨c, h1, rfl⟩ := pkS_some.1 h
    exact (makeSlice_ok E hr ht h1).goes
  | slice t x lo hi mx =>
    simp only [opE, Option.bind_eq_some_iff] at h
    obtain ⟨p, h1, u, h2, h3⟩ := h
    obtain ⟨c, h4, rfl, rfl⟩ := pkM_some.1 h3
    exact (slice_ok E hr ht h1 h2 h4).goes
  | fieldAddr t x f =>
    obtain ⟨c, h4, rfl, rfl⟩ := pkM_some.1 h
    exact (fieldAddr_ok E hr ht h4).goes
  | field t x f =>
    obtain ⟨c, h4, rfl, rfl⟩ := pkT_some.1 h
    exact (fieldV_ok E hr ht h4).goes
  | indexAddr t x ix =>
    obtain ⟨c, h4, rfl, rfl⟩ := pkM_some.1 h
    exact (indexAddr_ok E hr ht h4).goes
  | index t x ix =>
    obtain ⟨c, h4, rfl, rfl⟩ := pkT_some.1 h
    exact (index_ok E hr ht h4).goes
  | extract t i =>
    simp only [opE, Option.bind_eq_some_iff] at h
    obtain ⟨u, h1, h2⟩ := h
    obtain ⟨c, h4, rfl, rfl⟩ := pkT_some.1 h2
    obtain ⟨z, h5, h6⟩ := nth_ok (P := P) (w := w) (ht t u h1) h4
    exact (goesV_pure (v := .v c) hr h5 h6).goes
  | call c => exact absurd rfl (hn c)
  | makeMap t r => obtain ⟨c, h1, rfl⟩ := pkS_some.1 h; exact (make_ok E hr ht h1).goes
  | lookup t x k c => exact (look_ok E hr ht h).goes
  | mapUpdate t m k x => exact upd_ok E hr ht h
  | insert t m k x => exact upd_ok E hr ht h
  | mapEntry t m k => exact (ent_ok E hr ht h).goes
  | entryStore t m st x => exact est_ok hr ht h
  | range t x => obtain ⟨c, h1, rfl⟩ := pkS_some.1 h; exact (range_ok E hr ht h1).goes
  | next x str => exact (next_ok hr ht h).goes
  | entry x => obtain ⟨h1, rfl⟩ := pkA_some.1 h; exact (entry_ok hr ht h1).goes
  | _ => cases h

theorem op_wp {K : Nat → Option Obj} (E : Env P ty held) (hc : CallOk P K call) {o : Oper} {a : Act} {v : AV} {s' : St} {next : Act → World → Prop} {Q : Exit → Act → World → Prop} (hr : Rel φ s w) (hK : Kept K φ w) (ht : TR φ T a.eval)
    (h : opE ty held call o.op T s = some (v, s')) (hk : ∀ φ' w' u, Out φ s w φ' s' w' → VA φ' v u → next (a.put o.dst u) w') : o.wp P a w next Q := by
  by_cases hn : ∃ c, o.op = .call c
  · obtain ⟨c, hop⟩ := hn
    rw [hop] at h
    simp only [opE, callOp] at h
    split at h
    · rename_i f hf
      simp only [Option.bind_eq_some_iff] at h
      obtain ⟨fv, h1, p, h2, l, h3, h4⟩ := h
      have hfv := ht.c h1
      rw [fnOf_some h2] at hfv
      obtain ⟨cs, h5, h6⟩ := hfv
      have hargs : VAs φ (l ++ capVals p.2) ((c.args.map a.eval) ++ cs.toArray).toList := by
        simp only [Array.toList_append, Array.toList_map]
        exact (evs_ok ht h3).append h5.vals
      obtain ⟨g1, g2⟩ := hc _ _ _ _ _ h4 φ w _ hr hK hargs
      have hex : (execOp a.eval o).run P w = .ok (.enter p.1 ((c.args.map a.eval) ++ cs.toArray)) w := by
        obtain ⟨dst, op, type, pos, after, guard⟩ := o
        simp only at hop
        subst hop
        simp only [execOp, Sem.run_bind, resolve, hf, h6, Deferred.ofValue, Sem.run_pure, Result.andThen_ok, invoke]
        simpa using g1
      unfold Oper.wp
      rw [hex]
      exact Calls.mono g2 (fun e w'' he => by
        obtain ⟨φ', u, k1, k2, rfl⟩ := he
        exact hk φ' w'' u k1 k2)
    · rename_i b hb
      have hg : Goes P φ s w (builtin b c.argTypes o.type (c.args.map fun | .const _ => true | _ => false) (c.args.map a.eval)) v s' := by
        split at h
        · exact bltM_ok E hr ht h
        · obtain ⟨r, h1, rfl⟩ := pkS_some.1 h
          exact builtin_ok (P := P) E hr ht h1
      refine Goes.wp (o := o) (a := a) (φ := φ) (s := s) (v := v) (s' := s') ?_ hk
      obtain ⟨φ', w', u, k1, k2, k3⟩ := hg
      refine ⟨φ', w', u, k1, k2, ?_⟩
      obtain ⟨dst, op, type, pos, after, guard⟩ := o
      simp only at hop
      subst hop
      simp only [execOp, Sem.run_bind, resolve, hb, Sem.run_pure, Result.andThen_ok, invoke]
      exact k3
    · cases h
  · exact Goes.wp (op_goes (call := call) E hr ht (fun c hc => hn ⟨c, hc⟩) h) hk

end
end Go.Proofs.YtjbnkokcbhfdgabGreatDoor.Ev
