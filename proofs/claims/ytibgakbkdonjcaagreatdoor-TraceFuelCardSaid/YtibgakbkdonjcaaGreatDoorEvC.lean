/- Operations that read, write and make memory. -/
import Derived.Test.YtibgakbkdonjcaaGreatDoorEvB
namespace Go.Proofs.YtibgakbkdonjcaaGreatDoor.Ev
open Go Go.RowKit
set_option linter.unusedVariables false
set_option linter.unusedSimpArgs false
set_option linter.unusedSectionVars false
set_option linter.unnecessarySimpa false
section
variable {P : Program} {ty : Nat → Option TI} {held : Nat → Bool} {φ : Mp} {s : St} {w : World} {T : TM} {ρ : Operand → Value}

theorem Rel.at' (hr : Rel φ s w) {b : Nat} {bk : BK} (hb : s.get b = some bk) : ∃ p, φ b = some p := by
  obtain ⟨p, _, h, _⟩ := hr.blk b bk hb
  exact ⟨p, h⟩

theorem loadAt_ok (E : Env P ty held) (hr : Rel φ s w) {t b o : Nat} {r : TV} {q : Nat × Nat} (hq : φ b = some q) (h : loadAt ty t s b o = some r) :
    ∃ u, VT φ r u ∧ (Instr.loadAt t (.pointer (some ⟨q.1, o, none⟩))).run P w = .ok u w := by
  simp only [loadAt, Option.bind_eq_some_iff] at h
  obtain ⟨bk, hb, ti, h1, h2⟩ := h
  obtain ⟨i, hi⟩ := E.of h1
  simp only [partE, Option.bind_eq_some_iff, dropN_some] at h2
  obtain ⟨l', ⟨h3, rfl⟩, h4⟩ := h2
  split at h4
  · rename_i ha
    simp only [Option.bind_eq_some_iff, takeN_some] at h4
    obtain ⟨r', ⟨h5, rfl⟩, h6⟩ := h4
    cases h6
    simp only [List.length_drop] at h5
    obtain ⟨vs, g1, g2, g3, g4⟩ := hr.range hb hq (o := o) (n := ti.size) (by omega)
    refine ⟨.agg vs.toArray, ⟨vs, g1, rfl⟩, run_loadAt_mid w q.1 o t vs ti.desc g3 hi.und ?_ ?_⟩
    · have := hi.agg; rw [ha] at this
      generalize ti.desc = d at this
      cases d <;> first | rfl | cases this
    · rw [hi.info]; show some i.size = some vs.length; rw [hi.size, g2]
  · rename_i ha
    unfold headT at h4
    split at h4
    · rename_i c l' hc
      cases h4
      have hlt : o < bk.cells.length := by
        rcases Nat.lt_or_ge o bk.cells.length with h | h
        · exact h
        · rw [List.drop_eq_nil_of_le h] at hc; cases hc
      obtain ⟨vs, g1, g2, g3, g4⟩ := hr.range hb hq (o := o) (n := 1) (by omega)
      rw [hc] at g1
      cases vs with
      | nil => simp at g2
      | cons v vs =>
        simp only [List.take_succ_cons] at g1
        refine ⟨v, g1.1, ?_⟩
        have hv := g3 0 v rfl
        simp only [Nat.add_zero] at hv
        have hag := run_isAgg' hi w
        rw [show ti.agg = false from by simpa using ha] at hag
        have hld : (load ⟨q.1, o, none⟩).run P w = .ok v w := by
          unfold load
          simp only [Sem.run, hv]
        simp only [Instr.loadAt, Instr.sureAddr, loadVar, Sem.run_bind, Sem.run_pure, Result.andThen_ok, hag, Bool.false_eq_true, if_false, hld]
    · cases h4

theorem load_ok (E : Env P ty held) {t : Nat} {a : Operand} {v : AV} {s' : St} (hr : Rel φ s w) (ht : TR φ T ρ) (h : loadE ty t a T s = some (v, s')) : GoesV P φ s w (Instr.loadAt t (ρ a)) v s' := by
  simp only [loadE, Option.bind_eq_some_iff] at h
  obtain ⟨c, h1, p, h2, h3⟩ := h
  obtain ⟨r, h4, rfl, rfl⟩ := pkT_some.1 h3
  have hx := ht.c h1
  rw [ptrOf_some h2] at hx
  obtain ⟨q, hq, hx⟩ := hx
  obtain ⟨u, g1, g2⟩ := loadAt_ok E hr hq h4
  rw [hx]
  exact goesV_pure hr g1 g2

theorem store_ok (E : Env P ty held) {t : Nat} {a x : Operand} {v : AV} {s' : St} (hr : Rel φ s w) (ht : TR φ T ρ) (h : storeE ty t a x T s = some (v, s')) :
    Goes P φ s w (do Instr.storeAt t (ρ a) (ρ x); pure .skip) v s' := by
  simp only [storeE, Option.bind_eq_some_iff] at h
  obtain ⟨c, h1, p, h2, z, h3, h4⟩ := h
  simp only [storeAt, Option.bind_eq_some_iff, chk_some, Nat.beq_eq] at h4
  obtain ⟨ti, h5, h6, bk, hb, cs, hov, s1, hput, h7⟩ := h4
  cases h7
  obtain ⟨i, hi⟩ := E.of h5
  have hx := ht.c h1
  rw [ptrOf_some h2] at hx
  obtain ⟨q, hq, hx⟩ := hx
  have hz := (ht.t h3).cells
  have hle := (over_some.1 hov).1
  have hzl := hz.length
  obtain ⟨vs, g1, g2, g3, g4⟩ := hr.range hb hq (o := p.2) (n := z.cells.length) (by omega)
  have hout := put_out hr hb hq hov hz hput
  refine ⟨φ, _, undef, hout, ⟨[], trivial, rfl⟩, .inr ⟨?_, rfl⟩⟩
  rw [hx]
  have hst := run_storeCells_cells (P := P) q.1 p.2 (ρ x).cells.toList 0 w (fun j hj => by simpa using (g4 j (by omega)).1) (fun j hj => by simpa using (g4 j (by omega)).2) hz.one
  simp only [Nat.add_zero] at hst
  have hsz : (ρ x).cells.size = ti.size := by rw [← h6, hzl]; simp
  simp [Instr.storeAt, Instr.sureAddr, Sem.run_bind, storeVar, run_sizeOf' hi, hsz, hst]

theorem holds_new {B : BK} {us : List Value} (h : VL φ B.cells us) (ho : B.os = 0) (κ : Nat) : Holds φ B κ us.toArray :=
  ⟨us, [], h, by simp, fun _ => rfl, fun hne => absurd ho hne⟩

/-- a new block of given cells, that nothing follows -/
theorem newAt {s' : St} (hr : Rel φ s w) {e b : Nat} {cs : List CV} {us : List Value} (hv : VL φ cs us) (h : s.new ⟨cs, e, 0⟩ = some (b, s')) :
    ∃ φ', Out φ s w φ' s' (w.alloc (.cells us.toArray e)) ∧ φ' b = some (w.heap.size, 0) := by
  obtain ⟨h1, h2⟩ := new_out (κ := 0) hr h (grew_alloc w _) (alloc_last w (.cells us.toArray e)) (holds_new hv rfl 0)
  exact ⟨_, h1, h2⟩

theorem newPtr_ok {s' : St} {e : Nat} {cs : List CV} {u : Value} {v : AV} (hr : Rel φ s w) (hv : VL φ cs u.cells.toList) (h : newPtr s e cs = some (v, s')) :
    GoesV P φ s w (do pure (.pointer (some (← newVar e u)))) v s' := by
  simp only [newPtr, Option.bind_eq_some_iff] at h
  obtain ⟨q, h1, h2⟩ := h
  cases h2
  obtain ⟨φ', g1, g2⟩ := newAt hr hv (b := q.1) (s' := q.2) h1
  refine ⟨φ', _, .pointer (some ⟨w.heap.size, 0, none⟩), g1, ⟨_, g2, rfl⟩, ?_⟩
  simp only [newVar, newRow, newObj, Sem.run_bind, Sem.run, Result.andThen_ok, Sem.run_pure]
  rfl

theorem zero_ok {i : TypeInfo} {t : Nat} {ti : TI} {z : List CV} (hi : TyOf P t ti i) (h : ti.zero = some z) : ∃ zv, i.zero = some zv ∧ VL φ z zv.cells.toList := by
  have hz := hi.zero
  rw [h] at hz
  simp only [zeroOf, Option.bind_eq_some_iff] at hz
  obtain ⟨zv, h1, h2⟩ := hz
  exact ⟨zv, h1, absL_ok h2⟩

theorem run_zero {i : TypeInfo} {t : Nat} {ti : TI} (hi : TyOf P t ti i) {zv : Value} (h : i.zero = some zv) (w : World) : (zeroValue t).run P w = .ok zv w := by
  simp [zeroValue, typeInfo, hi.info, h]

theorem alloc_ok (E : Env P ty held) {t : Nat} {ti : TI} {z : List CV} {v : AV} {s' : St} (hr : Rel φ s w) (h1 : ty t = some ti) (h2 : ti.zero = some z) (h : newPtr s t z = some (v, s')) :
    GoesV P φ s w (Instr.alloc t true (.tuple #[])) v s' := by
  obtain ⟨i, hi⟩ := E.of h1
  obtain ⟨zv, h3, h4⟩ := zero_ok (φ := φ) hi h2
  obtain ⟨φ', w', u, g1, g2, g3⟩ := newPtr_ok (P := P) (u := zv) hr h4 h
  refine ⟨φ', w', u, g1, g2, ?_⟩
  rw [← g3]
  simp [Instr.alloc, Sem.run_bind, run_zero hi h3]

theorem box_ok {t : Nat} {x : Operand} {z : TV} {v : AV} {s' : St} (hr : Rel φ s w) (ht : TR φ T ρ) (h1 : evt T x = some z) (h : newPtr s t z.cells = some (v, s')) :
    GoesV P φ s w (Instr.box t (ρ x)) v s' := newPtr_ok hr (ht.t h1).cells h

theorem foldl_over : ∀ (us : List Value) (n k : Nat) (ls : List Value), n + k + us.length ≤ ls.length →
    (us.zipIdx k).foldl (fun (cs : Array Value) (p : Value × Nat) => cs.setIfInBounds (n + p.2) p.1) ls.toArray = (ls.take (n + k) ++ us ++ ls.drop (n + k + us.length)).toArray
  | [], n, k, ls, _ => by simp
  | u :: us, n, k, ls, h => by
    simp only [List.length_cons] at h
    rw [List.zipIdx_cons, List.foldl_cons, List.setIfInBounds_toArray, foldl_over us n (k + 1) _ (by simp; omega)]
    congr 1
    have ho : n + k < ls.length := by omega
    rw [List.take_set, List.drop_set]
    have e2 : n + k < n + (k + 1) + us.length := by omega
    rw [if_pos e2]
    have e3 : (List.take (n + (k + 1)) ls).set (n + k) u = List.take (n + k) ls ++ [u] := by
      rw [show n + (k + 1) = (n + k) + 1 by omega, List.take_succ_eq_append_getElem ho, List.set_append]
      simp [List.length_take, Nat.min_eq_left (Nat.le_of_lt ho)]
    rw [e3]
    have e4 : n + (k + 1) + us.length = n + k + (us.length + 1) := by omega
    simp [e4]

theorem fill_ok (ht : TR φ T ρ) {place place' : Nat → Option (Nat × Nat)} (hp : ∀ i p, place i = some p → place' i = some p) : ∀ {parts : List (Nat × Operand)} {cs r : List CV} {us : List Value},
    fillE place T parts cs = some r → VL φ cs us → ∃ vs, VL φ r vs ∧ vs.length = us.length ∧ Instr.fill place' us.toArray (parts.map fun p => (p.1, ρ p.2)) = some vs.toArray
  | [], cs, r, us, h, hv => by
    simp only [fillE, Option.some.injEq] at h
    subst h
    exact ⟨us, hv, rfl, rfl⟩
  | (i, x) :: l, cs, r, us, h, hv => by
    simp only [fillE, Option.bind_eq_some_iff] at h
    obtain ⟨p, h1, z, h2, cs', h3, h4⟩ := h
    simp only [fill1, chk_some, Nat.beq_eq] at h3
    obtain ⟨h5, h6⟩ := h3
    have hz := (ht.t h2).cells
    have hzl := hz.length
    have hle := (over_some.1 h6).1
    have hul := hv.length
    have hv' := VL.over h6 hz hv
    obtain ⟨vs, g1, g2, g3⟩ := fill_ok ht hp h4 hv'
    refine ⟨vs, g1, by rw [g2]; simp; simp at hzl; omega, ?_⟩
    simp only [List.map_cons, Instr.fill, hp i p h1]
    have hsz : (ρ x).cells.size = p.2 := by rw [← h5, hzl]; simp
    have hzl' : z.cells.length = (ρ x).cells.size := by rw [hzl]; simp
    have c1 : ¬ ((ρ x).cells.size ≠ p.2 ∨ p.1 + (ρ x).cells.size > us.toArray.size) := by
      simp only [List.size_toArray]
      omega
    simp only [ne_eq, decide_eq_true_eq, Bool.or_eq_true] at c1 ⊢
    rw [if_neg (by simpa using c1)]
    rw [← g3]
    congr 1
    rw [← Array.foldl_toList, Array.toList_zipIdx]
    have := foldl_over (ρ x).cells.toList p.1 0 us (by simp; omega)
    simpa using this

theorem run_map {α β : Type} (f : α → β) (x : Sem α) (w : World) : (f <$> x).run P w = (x.run P w).andThen fun a w' => .ok (f a) w' := by
  show ((x >>= fun a => pure (f a)) : Sem β).run P w = _
  rw [Sem.run_bind]
  rfl

theorem places_ok (E : Env P ty held) : ∀ (l : List Field) (w : World), allTy ty l = true → (l.mapM fun f => (do pure (f.offset, ← sizeOf f.type) : Sem (Nat × Nat))).run P w = .ok (l.map fun f => (f.offset, P.cellsOf f.type)) w
  | [], w, _ => rfl
  | f :: l, w, h => by
    simp only [allTy, Bool.and_eq_true] at h
    obtain ⟨h1, h2⟩ := h
    split at h1
    · rename_i ti hti
      obtain ⟨i, hi⟩ := E.of hti
      have hc : P.cellsOf f.type = ti.size := by simp [Program.cellsOf, hi.info, hi.size]
      rw [List.mapM_cons]
      simp only [Sem.run_bind, run_sizeOf' hi, Result.andThen_ok, Sem.run_pure, places_ok E l w h2, List.map_cons, hc]
    · cases h1

theorem build_ok (E : Env P ty held) {t : Nat} {ti : TI} {z cs : List CV} {parts : Array (Nat × Operand)} (hr : Rel φ s w) (ht : TR φ T ρ) (h1 : ty t = some ti) (h2 : ti.zero = some z)
    (h : buildE ty t parts.toList T z ti.desc = some cs) : GoesV P φ s w (Instr.build t (parts.map fun (i, x) => (i, ρ x))) (.v (.agg cs)) s := by
  obtain ⟨i, hi⟩ := E.of h1
  obtain ⟨zv, h3, h4⟩ := zero_ok (φ := φ) hi h2
  have hpl : (parts.map fun (i, x) => (i, ρ x)).toList = parts.toList.map fun p => (p.1, ρ p.2) := by simp
  unfold buildE at h
  split at h
  · rename_i fs hfs
    have hu := hi.und
    rw [hfs] at hu
    rw [chk_some] at h
    obtain ⟨hall, h⟩ := h
    have hp : ∀ i p, fieldPlaceE ty t i = some p → (fs.toList.map fun f => (f.offset, P.cellsOf f.type))[i]? = some p := by
      intro j p hj
      simp only [fieldPlaceE, Option.bind_eq_some_iff] at hj
      obtain ⟨fp, g1, g2⟩ := hj
      cases g2
      obtain ⟨fs', fd, i', k1, k2, k3, k4⟩ := field_of E g1
      rw [hu] at k1; cases k1
      have : fs.toList[j]? = some fd := by simpa using k2
      rw [List.getElem?_map, this]
      simp [Program.cellsOf, k4.info, k3, k4.size]
    obtain ⟨vs, g1, g2, g3⟩ := fill_ok ht hp h h4
    refine goesV_pure hr (u := .agg vs.toArray) ⟨vs, g1, rfl⟩ ?_
    have hpl' := places_ok (P := P) E fs.toList w hall
    have g3' : Instr.fill (fun x => (fs.toList.map fun f => (f.offset, P.cellsOf f.type)).toArray[x]?) zv.cells (parts.map fun (i, x) => (i, ρ x)).toList = some vs.toArray := by
      rw [hpl]
      rw [show zv.cells = zv.cells.toList.toArray from by simp]
      rw [← g3]
      congr 1
      funext x
      simp
    unfold Instr.build
    simp only [Sem.run_bind, run_zero hi h3, Result.andThen_ok, run_underlying hu, Array.mapM_eq_mapM_toList, run_map, hpl', g3', Sem.run_pure]
  · rename_i n e hk
    have hu := hi.und
    rw [hk] at hu
    simp only [Option.bind_eq_some_iff] at h
    obtain ⟨ei, h5, h6⟩ := h
    obtain ⟨i2, he⟩ := E.of h5
    obtain ⟨vs, g1, g2, g3⟩ := fill_ok ht (place' := fun i => some (i * ei.size, ei.size)) (fun i p h => h) h6 h4
    refine goesV_pure hr (u := .agg vs.toArray) ⟨vs, g1, rfl⟩ ?_
    have g3' : Instr.fill (fun i => some (i * ei.size, ei.size)) zv.cells (parts.map fun (i, x) => (i, ρ x)).toList = some vs.toArray := by
      rw [hpl]
      rw [show zv.cells = zv.cells.toList.toArray from by simp]
      exact g3
    unfold Instr.build
    simp only [Sem.run_bind, run_zero hi h3, Result.andThen_ok, run_underlying hu, run_sizeOf' he, g3', Sem.run_pure]
  · cases h
end
section
variable {P : Program} {ty : Nat → Option TI} {held : Nat → Bool} {φ : Mp} {s : St} {w : World} {T : TM} {ρ : Operand → Value}

theorem range_rep (z : Array Value) : ∀ n : Nat, ((List.range (n * z.size)).map fun i => z[i % z.size]!) = (List.replicate n z.toList).flatten
  | 0 => by simp
  | n + 1 => by
    have ih := range_rep z n
    rw [Nat.succ_mul, Nat.add_comm, List.range_add, List.map_append, List.replicate_succ, List.flatten_cons, ← ih]
    congr 1
    · apply List.ext_getElem
      · simp
      · intro i h1 h2
        simp only [List.length_map, List.length_range] at h1
        simp only [List.getElem_map, List.getElem_range, Array.getElem_toList]
        rw [Nat.mod_eq_of_lt h1]
        exact getElem!_pos z i h1
    · rw [List.map_map]
      apply List.map_congr_left
      intro i _
      simp

theorem zeroCells_eq (z : Array Value) (n : Nat) : (Builtin.zeroCells z n).toList = (List.replicate n z.toList).flatten := by
  rw [← range_rep]
  simp [Builtin.zeroCells]

theorem flat_length (l : List Value) (n : Nat) : (List.replicate n l).flatten.length = n * l.length := by simp

theorem buildSlice_ok (E : Env P ty held) {t n : Nat} {parts : Array (Nat × Operand)} {r : CV} {s' : St} (hr : Rel φ s w) (ht : TR φ T ρ) (h : buildSliceE ty t n parts.toList T s = some (r, s')) :
    GoesV P φ s w (Instr.buildSlice t n (parts.map fun (i, x) => (i, ρ x))) (.v (.c r)) s' := by
  simp only [buildSliceE, Option.bind_eq_some_iff, chk_some, Nat.beq_eq, Nat.blt_eq, Nat.ble_eq] at h
  obtain ⟨p, h1, z, h2, h3, h4, h5, cs, h6, q, h7, h8⟩ := h
  cases h8
  obtain ⟨hu, i, hi⟩ := sliceTy_some E h1
  obtain ⟨zv, g1, g2⟩ := zero_ok (φ := φ) hi h2
  have hzl : zv.cells.size = p.2.size := by have := g2.length; rw [h3] at this; simpa using this.symm
  obtain ⟨vs, k1, k2, k3⟩ := fill_ok ht (place' := fun i => some (i * p.2.size, p.2.size)) (fun i p h => h) h6 (VL.rep n g2)
  obtain ⟨φ', o1, o2⟩ := newAt hr k1 (b := q.1) (s' := q.2) h7
  refine ⟨φ', _, .slice (some ⟨w.heap.size, 0, none⟩) n n, o1, ⟨_, o2, rfl⟩, ?_⟩
  have hpl : (parts.map fun (i, x) => (i, ρ x)).toList = parts.toList.map fun p => (p.1, ρ p.2) := by simp
  have h5' : ¬ (n * p.2.size > 2 ^ 24) := by have : n * p.2.size ≤ 16777216 := h5; omega
  have k3' : Instr.fill (fun i => some (i * p.2.size, p.2.size)) (List.replicate n zv.cells.toList).flatten.toArray (parts.map fun (i, x) => (i, ρ x)).toList = some vs.toArray := by rw [hpl]; exact k3
  have hrow : (if n * p.2.size = 0 then pure #[] else do pure (← zeroValue p.1).cells : Sem (Array Value)).run P w = .ok (if n * p.2.size = 0 then #[] else zv.cells) w := by
    split
    · rfl
    · simp only [Sem.run_bind, run_zero hi g1, Result.andThen_ok, Sem.run_pure]
  have hcells : (Array.range (n * p.2.size)).map ((if n * p.2.size = 0 then #[] else zv.cells)[· % (if n * p.2.size = 0 then #[] else zv.cells : Array Value).size]!) = (List.replicate n zv.cells.toList).flatten.toArray := by
    by_cases h0 : n * p.2.size = 0
    · have : n = 0 := by
        rcases Nat.mul_eq_zero.1 h0 with h | h
        · exact h
        · omega
      subst this
      simp
    · rw [if_neg h0]
      apply Array.ext'
      rw [← range_rep, hzl]
      simp
  unfold Instr.buildSlice
  simp only [Sem.run_bind, run_underlying hu, Result.andThen_ok, run_sizeOf' hi, h5', if_false]
  by_cases h0 : n * p.2.size = 0
  · rw [if_pos h0]
    rw [if_pos h0] at hcells
    simp only [Sem.run_bind, Sem.run_pure, Result.andThen_ok, hcells, k3']
    simp only [newRow, newObj, Sem.run_bind, Sem.run, Result.andThen_ok, Sem.run_pure]
    rfl
  · rw [if_neg h0]
    rw [if_neg h0] at hcells
    simp only [Sem.run_bind, Sem.run_pure, Result.andThen_ok, run_zero hi g1, hcells, k3']
    simp only [newRow, newObj, Sem.run_bind, Sem.run, Result.andThen_ok, Sem.run_pure]
    rfl

theorem wrap_small {n : Nat} (h : n ≤ 1048576) : IntKind.i64.wrap (n : Int) = n := wrap_of_inR (k := .i64) (r := (n : Int)) (by
  show Nat.blt n 9223372036854775808 = true
  rw [Nat.blt_eq]; omega)

theorem makeSlice_ok (E : Env P ty held) {t : Nat} {l c : Operand} {r : CV} {s' : St} (hr : Rel φ s w) (ht : TR φ T ρ) (h : makeSliceE ty t l c T s = some (r, s')) :
    GoesV P φ s w (Instr.makeSlice t (ρ l) (ρ c)) (.v (.c r)) s' := by
  simp only [makeSliceE, Option.bind_eq_some_iff, chk_some, Nat.beq_eq, Nat.blt_eq, Nat.ble_eq] at h
  obtain ⟨p, h1, z, h2, lv, h3, ln, h4, cv, h5, cn, h6, h7, h8, h9, h10, h11, q, h12, h13⟩ := h
  cases h13
  obtain ⟨hu, i, hi⟩ := sliceTy_some E h1
  obtain ⟨zv, g1, g2⟩ := zero_ok (φ := φ) hi h2
  have hzl : zv.cells.size = p.2.size := by have := g2.length; rw [h10] at this; simpa using this.symm
  obtain ⟨k1, rfl⟩ := natOf_some h4
  obtain ⟨k2, rfl⟩ := natOf_some h6
  have hl : ρ l = _ := ht.c h3
  have hc : ρ c = _ := ht.c h5
  obtain ⟨φ', o1, o2⟩ := newAt hr (VL.rep cn g2) (b := q.1) (s' := q.2) h12
  refine ⟨φ', _, .slice (some ⟨w.heap.size, 0, none⟩) ln cn, o1, ⟨_, o2, rfl⟩, ?_⟩
  have wl := wrap_small (n := ln) (by omega)
  have wc := wrap_small h8
  have hb : p.2.bytes * cn ≤ 1048576 * 1048576 := Nat.mul_le_mul h9 h8
  have hb' : ((p.2.bytes : Int) * (cn : Int)) ≤ 1099511627776 := by have := Int.ofNat_le.2 hb; rw [Int.natCast_mul] at this; exact this
  have hb2 : cn * p.2.bytes ≤ 1099511627776 := by rw [Nat.mul_comm]; exact hb
  have e1 : ¬ ((cn : Int) < 0 ∨ (p.2.bytes : Int) * (cn : Int) > 281474976710656) := by omega
  have e2 : ¬ ((ln : Int) < 0) := by omega
  have e3 : ¬ ((ln : Int) > (cn : Int)) := by omega
  have hroom : ∀ w, (askRoom (cn * p.2.bytes)).run P w = .ok () w := fun w => by
    unfold askRoom
    rw [if_neg (by unfold roomBytes; omega)]
    rfl
  have hti : ∀ w, (typeInfo p.1).run P w = .ok i w := fun w => by
    unfold typeInfo
    simp only [Sem.run_bind, run_program, Result.andThen_ok, hi.info]
    rfl
  have hcond : ((decide ((cn : Int) < 0) || decide ((p.2.bytes : Int) * (cn : Int) > 2 ^ 48) || decide ((ln : Int) < 0) || decide ((ln : Int) > (cn : Int))) = true) = False := by
    simp only [eq_iff_iff, iff_false, Bool.or_eq_true, decide_eq_true_eq, not_or]
    refine ⟨⟨⟨by omega, ?_⟩, by omega⟩, by omega⟩
    rw [show (2 : Int) ^ 48 = 281474976710656 from by decide]
    omega
  have hrow : (if cn * p.2.size = 0 then pure #[] else do pure (← zeroValue p.1).cells : Sem (Array Value)).run P w = .ok (if cn * p.2.size = 0 then #[] else zv.cells) w := by
    split
    · rfl
    · simp only [Sem.run_bind, run_zero hi g1, Result.andThen_ok, Sem.run_pure]
  have hcells : (Array.range (cn * p.2.size)).map ((if cn * p.2.size = 0 then #[] else zv.cells)[· % (if cn * p.2.size = 0 then #[] else zv.cells : Array Value).size]!) = (List.replicate cn zv.cells.toList).flatten.toArray := by
    by_cases h0 : cn * p.2.size = 0
    · have : cn = 0 := by
        rcases Nat.mul_eq_zero.1 h0 with h | h
        · exact h
        · omega
      subst this
      simp
    · rw [if_neg h0]
      apply Array.ext'
      rw [← range_rep, hzl]
      simp
  unfold Instr.makeSlice
  rw [hl, hc]
  simp only [Sem.run_bind, run_underlying hu, Result.andThen_ok, asInt, asIntOf, Sem.run_pure, hti, hi.bytes, Int.ofNat_eq_natCast, wl, wc, hcond, if_false, Int.toNat_natCast, hroom, run_sizeOf' hi]
  by_cases h0 : cn * p.2.size = 0
  · rw [if_pos h0]
    rw [if_pos h0] at hcells
    simp only [Sem.run_bind, Sem.run_pure, Result.andThen_ok, hcells]
    simp only [newRow, newObj, Sem.run_bind, Sem.run, Result.andThen_ok, Sem.run_pure]
    rfl
  · rw [if_neg h0]
    rw [if_neg h0] at hcells
    simp only [Sem.run_bind, Sem.run_pure, Result.andThen_ok, run_zero hi g1, hcells]
    simp only [newRow, newObj, Sem.run_bind, Sem.run, Result.andThen_ok, Sem.run_pure]
    rfl

end
section
variable {P : Program} {ty : Nat → Option TI} {held : Nat → Bool} {φ : Mp} {s : St} {w : World} {T : TM} {ρ : Operand → Value}

/-- what a slice's elements are, in the world -/
structure SliceIs (P : Program) (φ : Mp) (w : World) (size : Nat) (x : CV) (k : Nat) (cs : List CV) (u : Value) (us : List Value) : Prop where
  vl : VL φ cs us
  len : us.length = k * size
  val : u = .slice none 0 0 ∧ k = 0 ∨ ∃ r o c, u = .slice (some ⟨r, o, none⟩) k c ∧ w.rangeAt r o us

theorem slice_is (hr : Rel φ s w) {size k : Nat} {x : CV} {cs : List CV} {u : Value} (hx : VC φ x u) (h1 : cellsOfSlice s size x = some cs) (h2 : lenOfSlice x = some k) :
    ∃ us, SliceIs P φ w size x k cs u us := by
  unfold cellsOfSlice at h1
  split at h1
  · cases h1
    simp only [lenOfSlice, Option.some.injEq] at h2
    subst h2
    exact ⟨[], trivial, by simp, .inl ⟨hx, rfl⟩⟩
  · rename_i b o n c
    simp only [lenOfSlice, Option.some.injEq] at h2
    subst h2
    simp only [Option.bind_eq_some_iff, dropN_some, takeN_some] at h1
    obtain ⟨bk, hb, l, ⟨g1, rfl⟩, g2, rfl⟩ := h1
    simp only [List.length_drop] at g2
    obtain ⟨q, hq⟩ := hr.at' hb
    obtain ⟨us, k1, k2, k3, k4⟩ := hr.range hb hq (o := o) (n := n * size) (by have : n.mul size = n * size := rfl; omega)
    refine ⟨us, k1, k2, .inr ?_⟩
    cases c <;> (obtain ⟨q', hq', hx⟩ := hx; rw [hq] at hq'; cases hq'; exact ⟨q.1, o, _, hx, k3⟩)
  · cases h1

theorem SliceIs.src {size k tx e' : Nat} {x : CV} {cs : List CV} {u : Value} {us : List Value} (h : SliceIs P φ w size x k cs u us) (hk : P.underlying tx = some (.slice e')) : Src P size tx u k us w := by
  rcases h.val with ⟨rfl, rfl⟩ | ⟨r, o, c, rfl, h3⟩
  · have : us = [] := List.length_eq_zero_iff.1 (by rw [h.len]; simp)
    subst this
    exact Src.ofNil w hk 0
  · exact Src.ofSlice w hk ⟨r, o, none⟩ k c us h.len (fun j v hv => by rw [Addr.add_mid]; exact h3 j v hv) h.vl.one

theorem SliceIs.first {size k : Nat} {x : CV} {cs : List CV} {u : Value} {us : List Value} (h : SliceIs P φ w size x k cs u us) (w' : World) (hw : ∀ a, w'.cell? a = w.cell? a) :
    (Builtin.firstCells size k u).run P w' = .ok us.toArray w' := by
  rcases h.val with ⟨rfl, rfl⟩ | ⟨r, o, c, rfl, h3⟩
  · have : us = [] := List.length_eq_zero_iff.1 (by rw [h.len]; simp)
    subst this
    exact run_firstCells_none w' size 0 0 0
  · exact run_firstCells_some w' size k ⟨r, o, none⟩ k c us h.len (fun j v hv => by rw [Addr.add_mid, hw]; exact h3 j v hv)

theorem growBy_le (need M : Nat) (h : need + need / 4 + 200 ≤ M) : ∀ r c, c ≤ M → Builtin.growBy need r c ≤ M
  | 0, c, hc => hc
  | r + 1, c, hc => by
    unfold Builtin.growBy
    split
    · exact hc
    · exact growBy_le need M h r _ (by omega)

theorem nextcap_le {need old : Nat} (h : old < need) : Builtin.nextslicecap need old ≤ 2 * need + 200 := by
  unfold Builtin.nextslicecap
  split
  · omega
  · split
    · omega
    · exact growBy_le need _ (by omega) 4 old (by omega)

theorem grownCap_ge (w : World) (need old e : Nat) : need ≤ grownCap w need old e := by
  unfold grownCap Question.cut
  exact Nat.le_add_right _ _

/-- a new row for what grew -/
theorem grown_ok (hr : Rel φ s w) {elem size n need old : Nat} {cs : List CV} {us : List Value} {z : Array Value} {r : CV} {s' : St} (hs : 0 < size) (hz : z.size = size) (hv : VL φ cs us)
    (hl : us.length = need * size) (h : grown s elem size need cs = some (r, s')) :
    ∃ φ', Out φ s w φ' s' (w.drew.alloc (.cells (us.toArray ++ Builtin.zeroCells z (grownCap w need old elem - need)) elem)) ∧
      VC φ' r (.slice (some ⟨w.heap.size, 0, none⟩) need (grownCap w need old elem)) := by
  simp only [grown, Option.bind_eq_some_iff] at h
  obtain ⟨q, h1, h2⟩ := h
  cases h2
  have hge := grownCap_ge w need old elem
  have hg : Grew w (w.drew.alloc (.cells (us.toArray ++ Builtin.zeroCells z (grownCap w need old elem - need)) elem)) := (grew_drew w).trans (grew_alloc w.drew _)
  have hlast := alloc_last w.drew (.cells (us.toArray ++ Builtin.zeroCells z (grownCap w need old elem - need)) elem)
  obtain ⟨h3, h4⟩ := new_out (κ := grownCap w need old elem) hr h1 hg hlast ⟨us, (Builtin.zeroCells z (grownCap w need old elem - need)).toList, hv, by apply Array.ext'; simp, fun h0 => by simp at h0; omega, fun _ => by
    rw [List.length_append, hl, zeroCells_eq, flat_length]
    simp only [Array.length_toList, hz]
    rw [← Nat.add_mul]
    congr 1
    omega⟩
  exact ⟨_, h3, ⟨_, h4, by simp⟩⟩

/-- the same row goes on under a new number -/
theorem regrow_out (hr : Rel φ s w) {b elem size n k : Nat} {bk : BK} {q : Nat × Nat} {old new : List CV} {us : List Value} {s1 s' : St} {b' : Nat} (hs : 0 < size) (hb : s.get b = some bk) (hq : φ b = some q)
    (hos : bk.os = size) (hel : bk.elem = elem) (ht : takeN (n * size) bk.cells = some old) (hv : VL φ new us) (hl : us.length = k * size) (hroom : n + k ≤ q.2)
    (hk : s.put b none = some s1) (hn : s1.new ⟨old ++ new, elem, size⟩ = some (b', s')) :
    ∃ φ', Out φ s w φ' s' (w.setCells q.1 (n * size) us) ∧ φ' b' = some q ∧ w.there q.1 (n * size) us.length := by
  obtain ⟨p', c, h1, h2, l, tl, h3, rfl, h4, h5⟩ := hr.blk b bk hb
  rw [hq] at h1; cases h1
  obtain ⟨t1, rfl⟩ := takeN_some.1 ht
  have h5' := h5 (by omega)
  rw [hos] at h5'
  have hl3 := h3.length
  have hle : n * size + us.length ≤ (l ++ tl).length := by
    rw [hl, h5', ← Nat.add_mul]
    exact Nat.mul_le_mul_right _ hroom
  have hlt := hr.lt hb
  have r1 := kill_rel hr hk
  have n1 := (new_eq hn).1
  have s1n : s1.n = s.n := by unfold St.put at hk; split at hk <;> cases hk; rfl
  have hfresh : φ b' = none := by rw [n1, s1n]; exact hr.fresh _ (Nat.le_refl _)
  have hext : Ext φ (upd φ b' (some q)) := fun j p hj => by
    unfold upd
    rw [if_neg (by rintro rfl; rw [hfresh] at hj; cases hj)]
    exact hj
  have hos := setCells_os (r := q.1) us (n * size) w
  have hget : ∀ j B, s'.get j = some B → (j = b' ∧ B = ⟨bk.cells.take (n * size) ++ new, elem, size⟩) ∨ (j ≠ b' ∧ j ≠ b ∧ s.get j = some B) := by
    intro j B hj
    rw [new_get hn] at hj
    split at hj
    · rename_i e; cases hj; exact .inl ⟨e, rfl⟩
    · rename_i e
      rw [put_get hk] at hj
      split at hj
      · cases hj
      · rename_i e2; exact .inr ⟨e, e2, hj⟩
  have hheap := setCells_heap us (n * size) w (l ++ tl) h2 hle
  refine ⟨_, ⟨(put_upd hk hb hlt).trans (new_upd hn), hext, ⟨fun j B hj => ?_, fun j j' B B' p p' h1 h2 h3 h4 h5 => ?_, fun j hj => ?_, ((put_upd hk hb hlt).trans (new_upd hn)).high hr.top⟩, hos.1, hos.2.1, hos.2.2, by rw [setCells_size]; exact Nat.le_refl _, fun r h1 h2 => ?_, fun j p h1 h2 => ?_, fun j hj => ?_⟩, by simp [upd], fun j hj => ?_⟩
  · rcases hget j B hj with ⟨rfl, rfl⟩ | ⟨e1, e2, hj⟩
    · refine ⟨q, _, by simp [upd], by rw [hheap, hel], l.take (n * size) ++ us, (l ++ tl).drop (n * size + us.length), VL.mono hext ((h3.take _).append hv), ?_, fun h0 => by simp at h0; omega, fun _ => ?_⟩
      · rw [List.take_append_of_le_length (by omega)]
      · rw [List.length_append, List.length_append, List.length_take, List.length_drop, h5']
        rw [h5'] at hle
        simp only
        omega
    · obtain ⟨p, c, g1, g2, g3⟩ := hr.blk j B hj
      refine ⟨p, c, hext j p g1, ?_, g3.mono hext⟩
      rw [setCells_other us _ w p.1 (fun he => e2 (hr.inj j b B bk p q hj hb g1 hq he))]
      exact g2
  · unfold upd at h3 h4
    rcases hget j B h1 with ⟨rfl, rfl⟩ | ⟨e1, e2, hj⟩
    · rcases hget j' B' h2 with ⟨rfl, rfl⟩ | ⟨f1, f2, hj'⟩
      · rfl
      · rw [if_pos rfl] at h3; rw [if_neg f1] at h4
        cases h3
        exact absurd (hr.inj j' b B' bk p' _ hj' hb h4 hq h5.symm) f2
    · rcases hget j' B' h2 with ⟨rfl, rfl⟩ | ⟨f1, f2, hj'⟩
      · rw [if_neg e1] at h3; rw [if_pos rfl] at h4
        cases h4
        exact absurd (hr.inj j b B bk p _ hj hb h3 hq h5) e2
      · rw [if_neg e1] at h3; rw [if_neg f1] at h4
        exact hr.inj j j' B B' p p' hj hj' h3 h4 h5
  · have : s'.n = s.n + 1 := by rw [(new_eq hn).2.2]; show s1.n + 1 = _; rw [s1n]
    unfold upd
    rw [if_neg (by rw [n1, s1n]; omega)]
    exact hr.fresh j (by omega)
  · rw [setCells_other us _ w r (fun he => h2 ⟨b, bk, q, hb, hq, he.symm⟩)]
  · unfold upd at h2
    split at h2
    · cases h2; exact .inr ⟨b, bk, q, hb, hq, rfl⟩
    · rw [h1] at h2; cases h2
  · unfold upd
    rw [if_neg (by rw [n1, s1n]; omega)]
  · refine ⟨?_, frozen_at h2 _⟩
    rw [cell_at h2]
    simp only [List.getElem?_toArray]
    rw [List.getElem?_eq_getElem (by omega)]
    rfl

theorem overE_ok (hr : Rel φ s w) {b at_ : Nat} {new : List CV} {us : List Value} {v r : CV} {s' : St} {q : Nat × Nat} (hq : φ b = some q) (hv : VL φ new us) (h : overE s b at_ new v = some (r, s')) :
    r = v ∧ Out φ s w φ s' (w.setCells q.1 at_ us) ∧ w.there q.1 at_ us.length := by
  simp only [overE, Option.bind_eq_some_iff] at h
  obtain ⟨bk, hb, cs, h1, s1, h2, h3⟩ := h
  cases h3
  have hle := (over_some.1 h1).1
  have hl := hv.length
  obtain ⟨vs, g1, g2, g3, g4⟩ := hr.range hb hq (o := at_) (n := us.length) (by omega)
  exact ⟨rfl, put_out hr hb hq h1 hv h2, g4⟩

theorem append_ok (E : Env P ty held) {t tx ty' : Nat} {p : Nat × TI} {ui : TI} {z : List CV} {x y r : CV} {u v : Value} {s' : St} (hr : Rel φ s w) (hx : VC φ x u) (hy : VC φ y v) (h0 : sliceTy ty t = some p) (h1 : ty tx = some ui)
    (h2 : isSliceD ui.desc = true) (hz : p.2.zero = some z) (hzl : z.length = p.2.size) (h : appendE s p.1 p.2.size p.2.bytes x y = some (r, s')) :
    GoesV P φ s w (Builtin.append_ #[t, tx] ty' #[u, v]) (.v (.c r)) s' := by
  obtain ⟨hu, i, hi⟩ := sliceTy_some E h0
  obtain ⟨i2, hi2⟩ := E.of h1
  obtain ⟨zv, z1, z2⟩ := zero_ok (φ := φ) hi hz
  have hzs : zv.cells.size = p.2.size := by have := z2.length; rw [hzl] at this; simpa using this.symm
  have hk : ∃ e', P.underlying tx = some (.slice e') := by
    have := hi2.und
    unfold isSliceD at h2
    split at h2
    · rename_i e' he; rw [he] at this; exact ⟨e', this⟩
    · cases h2
  obtain ⟨e', hk⟩ := hk
  simp only [appendE, chk_some, Nat.blt_eq, Nat.ble_eq, Option.bind_eq_some_iff] at h
  obtain ⟨hs, hby, new, g1, k, g2, n, g3, g4, g5⟩ := h
  have g4 : n + k ≤ 1048576 := g4
  obtain ⟨us, hus⟩ := slice_is (P := P) hr hy g1 g2
  have src := hus.src hk
  rw [← hi.size] at src
  have hfit : ∀ old, old < n + k → Builtin.nextslicecap (n + k) old * i.bytes ≤ 281474976710656 := fun old ho => by
    have h1 := nextcap_le ho
    rw [hi.bytes]
    have : Builtin.nextslicecap (n + k) old * p.2.bytes ≤ (2 * (n + k) + 200) * 1048576 := Nat.mul_le_mul h1 hby
    omega
  have h63 : ((n + k : Nat) : Int) ≤ 9223372036854775807 := by omega
  -- there is no room: a new row
  have grows : ∀ (base : Option Addr) (cap : Nat) (old : List CV) (ols : List Value), u = .slice base n cap → cap < n + k → VL φ old ols → ols.length = n * p.2.size →
      (Builtin.firstCells i.size n (.slice base n cap)).run P w.drew = .ok ols.toArray w.drew → grown s p.1 p.2.size (n + k) (old ++ new) = some (r, s') →
      GoesV P φ s w (Builtin.append_ #[t, tx] ty' #[u, v]) (.v (.c r)) s' := by
    intro base cap old ols hu' hcap hol holl hfc hgr
    obtain ⟨φ', o1, o2⟩ := grown_ok (n := n) (old := cap) hr hs hzs (hol.append hus.vl) (by rw [List.length_append, holl, hus.len, ← Nat.add_mul]) hgr
    refine ⟨φ', _, _, o1, o2, ?_⟩
    rw [hu']
    exact run_append_grow_src w t tx ty' p.1 i zv hu hi.info z1 base n cap ols hfc v k us src hcap h63 (hfit cap hcap)
  -- there is room
  have rooms : ∀ (r0 o cap : Nat), u = .slice (some ⟨r0, o, none⟩) n cap → n + k ≤ cap → w.there r0 (o + n * p.2.size) us.length →
      (Builtin.append_ #[t, tx] ty' #[u, v]).run P w = .ok (.slice (some ⟨r0, o, none⟩) (n + k) cap) (w.setCells r0 (o + n * p.2.size) us) := by
    intro r0 o cap hu' hcap hth
    rw [hu']
    have := run_append_room_src w t tx ty' p.1 i hu hi.info r0 o n cap v k us src hcap (fun j hj => by rw [hi.size]; exact (hth j hj).1) (fun j hj => by rw [hi.size]; exact (hth j hj).2)
    rw [hi.size] at this
    exact this
  unfold appTo at g5
  split at g5
  · -- nil
    simp only [lenOfSlice, Option.some.injEq] at g3
    subst g3
    have hx : u = .slice none 0 0 := hx
    split at g5
    · rename_i hk0
      cases g5
      have hk0 := Nat.eq_of_beq_eq_true hk0
      subst hk0
      have : us = [] := List.length_eq_zero_iff.1 (by rw [hus.len]; simp)
      subst this
      refine goesV_pure hr (u := .slice none 0 0) rfl ?_
      rw [hx]
      have hlen := src.len w
      have hcl := src.cells
      simp [Builtin.append_, run_underlying hu, run_underlying hk, sizeOf, typeInfo, hi.info, hlen, hcl]
    · rename_i hk0
      have hk0 := beq_ne (by simpa using hk0)
      refine grows none 0 [] [] hx (by omega) trivial (by simp) (by simpa using run_firstCells_none w.drew i.size 0 0 0) ?_
      have : k = 0 + k := by omega
      rw [← this]
      exact g5
  · rename_i b o n' c
    simp only [lenOfSlice, Option.some.injEq] at g3
    subst g3
    obtain ⟨q, hq, hx⟩ := hx
    split at g5
    · rename_i hle
      have hle : n' + k ≤ c := Nat.le_of_ble_eq_true hle
      obtain ⟨rfl, o1, o2⟩ := overE_ok hr hq hus.vl g5
      exact ⟨φ, _, _, o1, ⟨q, hq, rfl⟩, rooms q.1 o c hx hle o2⟩
    · rename_i hle
      have hle : ¬ (n' + k ≤ c) := fun h => by
        have h2 := Nat.ble_eq_true_of_le h
        have h3 : Nat.ble (n' + k) c = false := hle
        rw [h2] at h3; cases h3
      simp only [Option.bind_eq_some_iff] at g5
      obtain ⟨old, g6, g7⟩ := g5
      obtain ⟨ols, hols⟩ := slice_is (P := P) (k := n') hr (x := .slice b o n' (.fix c)) ⟨q, hq, hx⟩ g6 rfl
      refine grows _ c old ols hx (by omega) hols.vl hols.len ?_ g7
      have := hols.first (P := P) w.drew (fun _ => rfl)
      rw [← hi.size, hx] at this
      exact this
  · rename_i b o n' d
    simp only [lenOfSlice, Option.some.injEq] at g3
    subst g3
    simp only [chk_some, Nat.beq_eq, Option.bind_eq_some_iff] at g5
    obtain ⟨rfl, rfl, bk, hb, g6⟩ := g5
    simp only [appOpn, chk_some, Nat.beq_eq] at g6
    obtain ⟨hos, hel, g7⟩ := g6
    obtain ⟨q, hq, hx⟩ := hx
    simp only [Nat.sub_zero] at hx
    split at g7
    · rename_i hle
      have hle : (n' + k) * p.2.size ≤ bk.cells.length := Nat.le_of_ble_eq_true hle
      obtain ⟨rfl, o1, o2⟩ := overE_ok hr hq hus.vl g7
      have hcap : n' + k ≤ q.2 := by
        obtain ⟨p', c', f1, f2, l, tl, f3, rfl, f4, f5⟩ := hr.blk b bk hb
        rw [hq] at f1; cases f1
        have f6 := f5 (by omega)
        rw [hos] at f6
        have := f3.length
        simp only [List.length_append] at f6
        exact Nat.le_of_mul_le_mul_right (by omega : (n' + k) * p.2.size ≤ q.2 * p.2.size) hs
      have o2' : w.there q.1 (0 + n' * p.2.size) us.length := by rw [Nat.zero_add]; exact o2
      have hrun := rooms q.1 0 q.2 hx hcap o2'
      rw [Nat.zero_add] at hrun
      exact ⟨φ, _, _, o1, ⟨q, hq, rfl⟩, hrun⟩
    · simp only [Option.bind_eq_some_iff] at g7
      obtain ⟨old, g8, s1, g9, g10⟩ := g7
      by_cases hcap : n' + k ≤ q.2
      · simp only [grown, Option.bind_eq_some_iff] at g10
        obtain ⟨m, g11, g12⟩ := g10
        cases g12
        obtain ⟨φ', o1, o2, o3⟩ := regrow_out hr hs hb hq hos hel g8 hus.vl hus.len hcap g9 g11
        have o3' : w.there q.1 (0 + n' * p.2.size) us.length := by rw [Nat.zero_add]; exact o3
        have hrun := rooms q.1 0 q.2 hx hcap o3'
        rw [Nat.zero_add] at hrun
        exact ⟨φ', _, _, o1, ⟨q, o2, rfl⟩, hrun⟩
      · -- it goes into a new row: the old one is let go
        have r1 := kill_rel hr g9
        have hlt := hr.lt hb
        obtain ⟨ols, f1, f2, f3, f4⟩ := hr.range hb hq (o := 0) (n := n' * p.2.size) (by have := (takeN_some.1 g8).1; have e : n'.mul p.2.size = n' * p.2.size := rfl; omega)
        have hold : VL φ old ols := by rw [(takeN_some.1 g8).2]; rw [List.drop_zero] at f1; exact f1
        obtain ⟨φ', o1, o2⟩ := grown_ok (n := n') (old := q.2) r1 hs hzs (hold.append hus.vl) (by rw [List.length_append, f2, hus.len, ← Nat.add_mul]; rfl) g10
        refine ⟨φ', w.drew.alloc (.cells ((ols ++ us).toArray ++ Builtin.zeroCells zv.cells (grownCap w (n' + k) q.2 p.1 - (n' + k))) p.1), _, ?_, o2, ?_⟩
        · refine ⟨(put_upd g9 hb hlt).trans o1.upd, o1.ext, o1.rel, o1.os, o1.tape, o1.output, o1.size, fun rr h1 h2 => o1.keep rr h1 (fun h3 => h2 ?_), fun j pp h1 h2 => ?_, fun j hj => ?_⟩
          · obtain ⟨j, B, pp, j1, j2, j3⟩ := h3
            rw [put_get g9] at j1
            split at j1
            · cases j1
            · exact ⟨j, B, pp, j1, j2, j3⟩
          · rcases o1.new j pp h1 h2 with h3 | h3
            · exact .inl h3
            · obtain ⟨j', B, pp', j1, j2, j3⟩ := h3
              rw [put_get g9] at j1
              split at j1
              · cases j1
              · exact .inr ⟨j', B, pp', j1, j2, j3⟩
          · have s1n : s1.n = s.n := by unfold St.put at g9; split at g9 <;> cases g9; rfl
            exact o1.old j (by omega)
        · rw [hx]
          refine run_append_grow_src w t tx ty' p.1 i zv hu hi.info z1 _ n' q.2 ols ?_ v k us src (by omega) h63 (hfit _ (by omega))
          exact run_firstCells_some w.drew i.size n' ⟨q.1, 0, none⟩ n' q.2 ols (by rw [f2, hi.size]) (fun j vv hv => by rw [Addr.add_mid]; exact f3 j vv hv)
  · cases g5

theorem run_lenOf {k : Nat} {size : Nat} {x : CV} {cs : List CV} {u : Value} {us : List Value} (h : SliceIs P φ w size x k cs u us) (w' : World) : (Builtin.lenOf u).run P w' = .ok k w' := by
  rcases h.val with ⟨rfl, rfl⟩ | ⟨r, o, c, rfl, h3⟩ <;> rfl

theorem copy_ok (E : Env P ty held) {t : Nat} {ts : Array Nat} {ty' : Nat} {p : Nat × TI} {x y r : CV} {u v : Value} {s' : St} (hr : Rel φ s w) (hx : VC φ x u) (hy : VC φ y v) (h0 : sliceTy ty t = some p)
    (hts : ts[0]? = some t) (h : copyE s p.2.size x y = some (r, s')) : GoesV P φ s w (Builtin.copy_ ts ty' #[u, v]) (.v (.c r)) s' := by
  obtain ⟨hu, i, hi⟩ := sliceTy_some E h0
  simp only [copyE, Option.bind_eq_some_iff, chk_some, Nat.ble_eq] at h
  obtain ⟨n, g1, k, g2, g3, cs, g4, g5⟩ := h
  obtain ⟨us, hus⟩ := slice_is (P := P) hr hy g4 g2
  have hmin : Nat.min k n = k := Nat.min_eq_left g3
  have hfc := hus.first (P := P) w (fun _ => rfl)
  have hlen := run_lenOf hus w
  unfold copyTo at g5
  split at g5
  · rename_i b o n' c
    simp only [lenOfSlice, Option.some.injEq] at g1
    subst g1
    have : ∃ q c', φ b = some q ∧ u = .slice (some ⟨q.1, o, none⟩) n' c' := by
      cases c <;> (obtain ⟨q, hq, hx⟩ := hx; exact ⟨q, _, hq, hx⟩)
    obtain ⟨q, c', hq, hx⟩ := this
    obtain ⟨rfl, o1, o2⟩ := overE_ok hr hq hus.vl g5
    refine ⟨φ, _, .int .i64 (.ofNat k), o1, rfl, ?_⟩
    have hst := run_storeCells_cells (P := P) q.1 o us 0 w (fun j hj => by simpa using (o2 j hj).1) (fun j hj => by simpa using (o2 j hj).2) hus.vl.one
    simp only [Nat.add_zero] at hst
    rw [hx]
    simp [Builtin.copy_, hts, run_underlying hu, hlen, hmin, run_sizeOf' hi, hfc, hst, goInt]
  · rename_i hno
    cases g5
    have : x = .snil := by
      cases x <;> first | rfl | (cases g1; done) | skip
      rename_i b o n' c
      exact absurd rfl (hno b o n' c)
    subst this
    simp only [lenOfSlice, Option.some.injEq] at g1
    subst g1
    have hk : k = 0 := by omega
    subst hk
    have hx : u = .slice none 0 0 := hx
    refine goesV_pure hr (u := .int .i64 (.ofNat 0)) rfl ?_
    rw [hx]
    simp [Builtin.copy_, hts, run_underlying hu, hlen, run_sizeOf' hi, hfc, goInt]

end
/-- what a call of a function does, where the evaluator has an answer -/
def CallOk (P : Program) (call : CallF) : Prop := ∀ f l s v s', call f l s = some (v, s') → ∀ φ w (args : Array Value), Rel φ s w → VAs φ l args.toList →
  (callFunc f args).run P w = .ok (.enter f args) w ∧ Calls P f args w fun e w' => ∃ φ' u, Out φ s w φ' s' w' ∧ VA φ' v u ∧ e = .returned u

section
variable {P : Program} {ty : Nat → Option TI} {held : Nat → Bool} {call : CallF} {φ : Mp} {s : St} {w : World} {T : TM} {ρ : Operand → Value}

theorem evs_ok (ht : TR φ T ρ) : ∀ {l : List Operand} {r : List AV}, evs T l = some r → VAs φ r (l.map ρ)
  | [], r, h => by simp [evs] at h; subst h; trivial
  | x :: l, r, h => by
    simp only [evs, Option.bind_eq_some_iff] at h
    obtain ⟨v, h1, r', h2, h3⟩ := h
    cases h3
    exact ⟨ht x v h1, evs_ok ht h2⟩

theorem nth_ok {v : AV} {u : Value} {i : Nat} {r : TV} (hv : VA φ v u) (h : nthT v i = some r) : ∃ z, VT φ r z ∧ (Instr.extract u i).run P w = .ok z w := by
  unfold nthT at h
  split at h
  · obtain ⟨vs, h1, rfl⟩ := hv
    obtain ⟨z, h2, h3⟩ := h1.nth h
    exact ⟨z, h3, by simp [Instr.extract, h2]⟩
  · cases h

theorem lenOf_val {c : CV} {n : Nat} {u : Value} (h : lenOfSlice c = some n) (hv : VC φ c u) : ∃ a cp, u = .slice a n cp := by
  unfold lenOfSlice at h
  split at h
  · cases h; exact ⟨none, 0, hv⟩
  · rename_i b o n' c
    cases h
    cases c <;> (obtain ⟨q, hq, hx⟩ := hv; exact ⟨_, _, hx⟩)
  · cases h

theorem min_ok {c c' r : CV} {u u' : Value} (h1 : VC φ c u) (h2 : VC φ c' u') (h : minE c c' = some r) (ts : Array Nat) (t : Nat) :
    ∃ z, VC φ r z ∧ (Builtin.min_ ts t #[u, u']).run P w = .ok z w := by
  unfold minE at h
  split at h
  · rename_i k a k' b
    have h1 : u = _ := h1; have h2 : u' = _ := h2
    subst h1; subst h2
    rw [ilt_eq] at h
    refine ⟨.int k (if b < a then b else a), ?_, by simp [Builtin.min_, Builtin.min2]⟩
    split at h
    · rename_i hb; rw [decide_eq_true_iff] at hb; cases h; rw [if_pos hb]; rfl
    · rename_i hb; rw [decide_eq_false_iff_not] at hb; cases h; rw [if_neg hb]; rfl
  · cases h

theorem max_ok {c c' r : CV} {u u' : Value} (h1 : VC φ c u) (h2 : VC φ c' u') (h : maxE c c' = some r) (ts : Array Nat) (t : Nat) :
    ∃ z, VC φ r z ∧ (Builtin.max_ ts t #[u, u']).run P w = .ok z w := by
  unfold maxE at h
  split at h
  · rename_i k a k' b
    have h1 : u = _ := h1; have h2 : u' = _ := h2
    subst h1; subst h2
    rw [ilt_eq] at h
    refine ⟨.int k (if b > a then b else a), ?_, by simp [Builtin.max_, Builtin.max2]⟩
    split at h
    · rename_i hb; rw [decide_eq_true_iff] at hb; cases h; rw [if_pos hb]; rfl
    · rename_i hb; rw [decide_eq_false_iff_not] at hb; cases h; rw [if_neg hb]; rfl
  · cases h

theorem builtin_ok (E : Env P ty held) {b : Builtin} {ts : Array Nat} {args : Array Operand} {t : Nat} {cs : Array Bool} {r : CV} {s' : St} (hr : Rel φ s w) (ht : TR φ T ρ) (h : bltE ty b ts.toList args.toList T s = some (r, s')) :
    Goes P φ s w (builtin b ts t cs (args.map ρ)) (.v (.c r)) s' := by
  unfold bltE at h
  split at h
  · rename_i x hargs
    have ha : args = #[x] := Array.ext' (by simpa using hargs)
    subst ha
    split at h
    · rename_i t' hts
      have hts' : ts = #[t'] := Array.ext' (by simpa using hts)
      subst hts'
      simp only [lenE, Option.bind_eq_some_iff, chk_some] at h
      obtain ⟨ti, h1, h2, v, h3, n, h4, h5⟩ := h
      cases h5
      obtain ⟨i, hi⟩ := E.of h1
      obtain ⟨a, cp, hx⟩ := lenOf_val h4 (ht.c h3)
      refine GoesV.goes (e := Builtin.len_ #[t'] t (#[x].map ρ)) (goesV_pure hr (u := .int .i64 (.ofNat n)) rfl ?_)
      have hu := hi.und
      unfold isSliceD at h2
      split at h2
      · rename_i e he
        rw [he] at hu
        simp [Builtin.len_, hx, run_underlying hu, goInt]
      · cases h2
    · cases h
  · rename_i x y hargs
    have ha : args = #[x, y] := Array.ext' (by simpa using hargs)
    subst ha
    split at h
    · rename_i t1 t2 hts
      have hts' : ts = #[t1, t2] := Array.ext' (by simpa using hts)
      subst hts'
      simp only [Option.bind_eq_some_iff] at h
      obtain ⟨u, h1, v, h2, h3⟩ := h
      have hx := ht.c h1
      have hy := ht.c h2
      have hm : (#[x, y] : Array Operand).map ρ = #[ρ x, ρ y] := by simp
      rw [hm]
      unfold blt2 at h3
      split at h3
      · simp only [Option.bind_eq_some_iff, chk_some, Nat.beq_eq] at h3
        obtain ⟨p, h4, ui, h5, z, h6, h7, h8, h9⟩ := h3
        exact GoesV.goes (e := Builtin.append_ #[t1, t2] t #[ρ x, ρ y]) (append_ok E hr hx hy h4 h5 h7 h6 h8 h9)
      · simp only [Option.bind_eq_some_iff] at h3
        obtain ⟨p, h4, h5⟩ := h3
        exact GoesV.goes (e := Builtin.copy_ #[t1, t2] t #[ρ x, ρ y]) (copy_ok E hr hx hy h4 rfl h5)
      · simp only [Option.bind_eq_some_iff] at h3
        obtain ⟨z, h4, h5⟩ := h3
        cases h5
        obtain ⟨q, h6, h7⟩ := min_ok (P := P) (w := w) hx hy h4 #[t1, t2] t
        exact GoesV.goes (e := Builtin.min_ #[t1, t2] t #[ρ x, ρ y]) (goesV_pure (v := .v (.c r)) hr h6 h7)
      · simp only [Option.bind_eq_some_iff] at h3
        obtain ⟨z, h4, h5⟩ := h3
        cases h5
        obtain ⟨q, h6, h7⟩ := max_ok (P := P) (w := w) hx hy h4 #[t1, t2] t
        exact GoesV.goes (e := Builtin.max_ #[t1, t2] t #[ρ x, ρ y]) (goesV_pure (v := .v (.c r)) hr h6 h7)
      · cases h3
    · cases h
  · cases h

/-- from a yield to the walk's own form -/
theorem Goes.wp {o : Oper} {a : Act} {v : AV} {s' : St} {next : Act → World → Prop} {Q : Exit → Act → World → Prop} (h : Goes P φ s w (execOp a.eval o) v s')
    (hk : ∀ φ' w' u, Out φ s w φ' s' w' → VA φ' v u → next (a.put o.dst u) w') : o.wp P a w next Q := by
  obtain ⟨φ', w', u, h1, h2, h3⟩ := h
  unfold Oper.wp
  rcases h3 with h3 | ⟨h3, rfl⟩
  · rw [h3]; exact hk φ' w' u h1 h2
  · rw [h3]; exact hk φ' w' undef h1 h2

theorem goes_pure (hr : Rel φ s w) {e : Sem Next} {v : AV} {u : Value} (hv : VA φ v u) (h : e.run P w = .ok (.value u) w) : Goes P φ s w e v s :=
  ⟨φ, w, u, Out.refl hr, hv, .inl h⟩

theorem op_goes (E : Env P ty held) {o : Oper} {v : AV} {s' : St} (hr : Rel φ s w) (ht : TR φ T ρ) (hn : ∀ c, o.op ≠ .call c) (h : opE ty held call o.op T s = some (v, s')) : Goes P φ s w (execOp ρ o) v s' := by
  obtain ⟨dst, op, type, pos, after, guard⟩ := o
  simp only at h hn
  cases op with
  | move x => obtain ⟨h1, rfl⟩ := pkA_some.1 h; exact goes_pure hr (ht x v h1) rfl
  | assign x => obtain ⟨h1, rfl⟩ := pkA_some.1 h; exact goes_pure hr (ht x v h1) rfl
  | pick c a b =>
    simp only [opE, Option.bind_eq_some_iff] at h
    obtain ⟨cv, h1, bv, h2, h3⟩ := h
    obtain ⟨h4, rfl⟩ := pkA_some.1 h3
    have hc := ht.c h1
    rw [boolOf_some h2] at hc
    have hc : ρ c = .bool bv := hc
    cases bv
    · exact goes_pure hr (u := ρ b) (ht b v h4) (by simp [execOp, hc, asBool])
    · exact goes_pure hr (u := ρ a) (ht a v h4) (by simp [execOp, hc, asBool])
  | alloc t =>
    simp only [opE, Option.bind_eq_some_iff] at h
    obtain ⟨ti, h1, z, h2, h3⟩ := h
    exact (alloc_ok E hr h1 h2 h3).goes
  | box t x =>
    simp only [opE, Option.bind_eq_some_iff] at h
    obtain ⟨z, h1, h2⟩ := h
    exact (box_ok hr ht h1 h2).goes
  | build t parts =>
    simp only [opE, Option.bind_eq_some_iff] at h
    obtain ⟨ti, h1, z, h2, cs, h3, h4⟩ := h
    cases h4
    exact (build_ok E hr ht h1 h2 h3).goes
  | buildSlice t n parts =>
    obtain ⟨c, h1, rfl⟩ := pkS_some.1 h
    exact (buildSlice_ok E hr ht h1).goes
  | load t a => exact (load_ok E hr ht h).goes
  | store t a x => exact store_ok E hr ht h
  | nilCheck x =>
    simp only [opE, Option.bind_eq_some_iff] at h
    obtain ⟨c, h1, p, h2, h3⟩ := h
    cases h3
    have hx := ht.c h1
    rw [ptrOf_some h2] at hx
    have hx' := hx
    obtain ⟨q, hq, hx'⟩ := hx'
    refine goes_pure hr (u := ρ x) hx ?_
    simp [execOp, hx']
  | binOp op t x y t2 =>
    simp only [opE, Option.bind_eq_some_iff] at h
    obtain ⟨u, h1, u', h2, h3⟩ := h
    obtain ⟨c, h4, rfl, rfl⟩ := pkM_some.1 h3
    exact (bin_ok E hr (ht.t h1) (ht.t h2) h4).goes
  | unOp op t x =>
    simp only [opE, Option.bind_eq_some_iff] at h
    obtain ⟨u, h1, h3⟩ := h
    obtain ⟨c, h4, rfl, rfl⟩ := pkM_some.1 h3
    exact (un_ok hr (ht.c h1) h4).goes
  | convert src d x =>
    obtain ⟨c, h4, rfl, rfl⟩ := pkM_some.1 h
    exact (conv_ok E hr ht h4).goes
  | makeInterface t x =>
    obtain ⟨c, h4, rfl, rfl⟩ := pkM_some.1 h
    exact (iface_ok E hr ht h4).goes
  | makeFunc fn first captured =>
    obtain ⟨c, h4, rfl, rfl⟩ := pkM_some.1 h
    exact (func_ok hr ht h4).goes
  | makeSlice t l c =>
    obtain ⟨c, h1, rfl⟩ := pkS_some.1 h
    exact (makeSlice_ok E hr ht h1).goes
  | slice t x lo hi mx =>
    simp only [opE, Option.bind_eq_some_iff] at h
    obtain ⟨p, h1, u, h2, h3⟩ := h
    obtain ⟨c, h4, rfl, rfl⟩ := pkM_some.1 h3
    exact (slice_ok E hr ht h1 h2 h4).goes
  | fieldAddr t x f =>
    obtain ⟨c, h4, rfl, rfl⟩ := pkM_some.1 h
    exact (fieldAddr_ok E hr ht h4).goes
  | field t x f =>
    obtain ⟨c, h4, rfl, rfl⟩ := pkT_some.1 h
    exact (fieldV_ok E hr ht h4).goes
  | indexAddr t x ix =>
    obtain ⟨c, h4, rfl, rfl⟩ := pkM_some.1 h
    exact (indexAddr_ok E hr ht h4).goes
  | index t x ix =>
    obtain ⟨c, h4, rfl, rfl⟩ := pkT_some.1 h
    exact (index_ok E hr ht h4).goes
  | extract t i =>
    simp only [opE, Option.bind_eq_some_iff] at h
    obtain ⟨u, h1, h2⟩ := h
    obtain ⟨c, h4, rfl, rfl⟩ := pkT_some.1 h2
    obtain ⟨z, h5, h6⟩ := nth_ok (P := P) (w := w) (ht t u h1) h4
    exact (goesV_pure (v := .v c) hr h5 h6).goes
  | call c => exact absurd rfl (hn c)
  | _ => cases h

theorem op_wp (E : Env P ty held) (hc : CallOk P call) {o : Oper} {a : Act} {v : AV} {s' : St} {next : Act → World → Prop} {Q : Exit → Act → World → Prop} (hr : Rel φ s w) (ht : TR φ T a.eval)
    (h : opE ty held call o.op T s = some (v, s')) (hk : ∀ φ' w' u, Out φ s w φ' s' w' → VA φ' v u → next (a.put o.dst u) w') : o.wp P a w next Q := by
  by_cases hn : ∃ c, o.op = .call c
  · obtain ⟨c, hop⟩ := hn
    rw [hop] at h
    simp only [opE, callOp] at h
    split at h
    · rename_i f hf
      simp only [Option.bind_eq_some_iff] at h
      obtain ⟨fv, h1, p, h2, l, h3, h4⟩ := h
      have hfv := ht.c h1
      rw [fnOf_some h2] at hfv
      obtain ⟨cs, h5, h6⟩ := hfv
      have hargs : VAs φ (l ++ capVals p.2) ((c.args.map a.eval) ++ cs.toArray).toList := by
        simp only [Array.toList_append, Array.toList_map]
        exact (evs_ok ht h3).append h5.vals
      obtain ⟨g1, g2⟩ := hc _ _ _ _ _ h4 φ w _ hr hargs
      have hex : (execOp a.eval o).run P w = .ok (.enter p.1 ((c.args.map a.eval) ++ cs.toArray)) w := by
        obtain ⟨dst, op, type, pos, after, guard⟩ := o
        simp only at hop
        subst hop
        simp only [execOp, Sem.run_bind, resolve, hf, h6, Deferred.ofValue, Sem.run_pure, Result.andThen_ok, invoke]
        simpa using g1
      unfold Oper.wp
      rw [hex]
      exact Calls.mono g2 (fun e w'' he => by
        obtain ⟨φ', u, k1, k2, rfl⟩ := he
        exact hk φ' w'' u k1 k2)
    · rename_i b hb
      obtain ⟨r, h1, rfl⟩ := pkS_some.1 h
      have hg := builtin_ok (P := P) (t := o.type) (cs := c.args.map fun | .const _ => true | _ => false) E hr ht h1
      refine Goes.wp (o := o) (a := a) (φ := φ) (s := s) (v := .v (.c r)) (s' := s') ?_ hk
      obtain ⟨φ', w', u, k1, k2, k3⟩ := hg
      refine ⟨φ', w', u, k1, k2, ?_⟩
      obtain ⟨dst, op, type, pos, after, guard⟩ := o
      simp only at hop
      subst hop
      simp only [execOp, Sem.run_bind, resolve, hb, Sem.run_pure, Result.andThen_ok, invoke]
      exact k3
    · cases h
  · exact Goes.wp (op_goes (call := call) E hr ht (fun c hc => hn ⟨c, hc⟩) h) hk

end
end Go.Proofs.YtibgakbkdonjcaaGreatDoor.Ev
