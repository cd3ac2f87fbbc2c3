/- haruspextop.small; slices.Grow at no slice: as hooks of the evaluator. -/
import Derived.Test.YtjbnkokcbhfdgabGreatDoorBase
import Derived.Test.YtjbnkokcbhfdgabGreatDoorXvW
import Derived.Test.YtjbnkokcbhfdgabGreatDoorXvG
namespace Go.Proofs.YtjbnkokcbhfdgabGreatDoor
open Go Go.RowKit
set_option linter.unusedVariables false
set_option maxRecDepth 10000

theorem wrap_neg {t : Int} (h1 : t < 0) (h2 : -9223372036854775808 < t) : IntKind.i64.wrap (-t) = -t := by
  obtain ⟨m, hm⟩ : ∃ m : Nat, -t = Int.ofNat m := ⟨(-t).toNat, by simp; omega⟩
  rw [hm]
  refine Ev.wrap_of_inR (k := .i64) (r := Int.ofNat m) ?_
  show Nat.blt m 9223372036854775808 = true
  rw [Nat.blt_eq]
  have : (m : Int) = -t := hm.symm
  omega
theorem small_walk (n : Int) (k : Nat) (hk : 0 < k) (hk2 : k < 4611686018427387904) (w : World) :
    Calls Tryz.prog 22 #[.int .i64 n, .int .i64 (k : Int)] w fun e w' => e = .returned (.int .i64 ((n.tmod (k : Int)).natAbs : Nat)) ∧ w' = w := by
  have hk0 : (((k : Int) == 0) = false) := by simp; omega
  have hk1 : ¬ ((k : Int) = 0) := by omega
  have hlt : (n.tmod (k : Int)).natAbs < k := by
    rw [Int.natAbs_tmod]; exact Nat.mod_lt _ hk
  by_cases h : n.tmod (k : Int) < 0
  · have d : decide (n.tmod (k : Int) < 0) = true := decide_eq_true h
    have hw := wrap_neg h (by omega)
    have e : ((n.tmod (k : Int)).natAbs : Int) = - n.tmod (k : Int) := by omega
    rw [e]
    clear h hlt e hk hk2
    go_enter Tryz.func22, Tryz.ntmps22
    go_wp2
    go_ret
    exact ⟨rfl, rfl⟩
  · have d : decide (n.tmod (k : Int) < 0) = false := decide_eq_false h
    have e : ((n.tmod (k : Int)).natAbs : Int) = n.tmod (k : Int) := by omega
    rw [e]
    clear h hlt e hk hk2
    go_enter Tryz.func22, Tryz.ntmps22
    go_wp2
    go_ret
    exact ⟨rfl, rfl⟩

theorem Ev.info_parts' {P : Program} {t : TypeId} {z : Value} {a b : Nat} (h : (P.info? t).map (fun i => (i.zero, i.size, i.bytes)) = some (some z, a, b)) : ∃ i, P.info? t = some i ∧ i.zero = some z ∧ i.size = a ∧ i.bytes = b := by
  cases hi : P.info? t with
  | none => rw [hi] at h; cases h
  | some i =>
    rw [hi] at h
    simp only [Option.map_some, Option.some.injEq, Prod.mk.injEq] at h
    exact ⟨i, rfl, h.1, h.2.1, h.2.2⟩
theorem run_grow0 {P : Program} {w : World} (t tx ty e : TypeId) (i : TypeInfo) (z : Value) (ht : P.underlying t = some (.slice e)) (htx : P.underlying tx = some (.int .i64)) (hi : P.info? e = some i) (hz : i.zero = some z) (n : Nat) (h0 : 0 < n) (hn : n ≤ 1024) (hs : 0 < i.size) (hs2 : i.size ≤ 1024) (hb : i.bytes ≤ 1024) :
    (Builtin.append_ #[t, tx] ty #[.slice none 0 0, .int .i64 (n : Int)]).run P w = .ok (.slice (some ⟨w.heap.size, 0, none⟩) n (grownCap w n 0 e))
      (w.drew.alloc (.cells (Builtin.zeroCells z.cells n ++ Builtin.zeroCells z.cells (grownCap w n 0 e - n)) e)) := by
  have hw : IntKind.i64.wrap (n : Int) = n := Ev.wrap_small (by omega)
  have e1 : ¬ ((n : Int) < 0) := by omega
  have e2 : ¬ ((n : Int) * (i.bytes : Int) > 281474976710656) := by
    have : n * i.bytes ≤ 1024 * 1024 := Nat.mul_le_mul hn hb
    have : ((n : Int) * (i.bytes : Int)) ≤ 1048576 := by have := Int.ofNat_le.2 this; rw [Int.natCast_mul] at this; exact this
    omega
  have e3 : ¬ (n * i.size = 0) := by rw [Nat.mul_eq_zero]; omega
  have hnc := Ev.nextcap_le (need := n) (old := 0) h0
  have e4 : ¬ (281474976710656 < Builtin.nextslicecap n 0 * i.bytes) := by
    have : Builtin.nextslicecap n 0 * i.bytes ≤ (2 * n + 200) * 1024 := Nat.mul_le_mul hnc hb
    omega
  have e5 : ¬ (n ≤ 0) := by omega
  have e6 : ¬ (9223372036854775807 < (n : Int)) := by omega
  simp [Builtin.append_, run_underlying ht, run_underlying htx, sizeOf, typeInfo, zeroValue, hi, hz, asInt, asIntOf, hw, e1, e2, e3, e4, e6, Question.forced, newRow, grownCap]
  rw [if_neg (by omega)]
  have hf : (Builtin.firstCells i.size 0 (.slice none 0 0)).run P w.drew = .ok #[] w.drew := by simp [Builtin.firstCells]
  rw [hf]
  simp

theorem grow_walk0 (w : World) : Calls Tryz.prog 115 #[.slice none 0 0, .int .i64 0] w fun e w' => e = .returned (.slice none 0 0) ∧ w' = w := by
  go_enter Tryz.func115, Tryz.ntmps115
  go_wp2
  go_ret
  exact ⟨rfl, rfl⟩
theorem infoA : (Tryz.prog.info? 85).map (fun i => (i.zero, i.size, i.bytes)) = some (some (.agg #[.int .i64 0, .int .i64 0]), 2, 16) := by kernel_rfl
theorem grown_ge (w : World) (n e : Nat) : n ≤ grownCap w n 0 e := by
  show n ≤ n + _ % _
  exact Nat.le_add_right _ _
theorem zero_size (n : Nat) : (Builtin.zeroCells (#[.int .i64 0, .int .i64 0] : Array Value) n).size = n * 2 := by simp [Builtin.zeroCells]
theorem wpList_append_run {P : Program} {w : World} {ops : Array Oper} {rest : List Oper} {o : Oper} {a : Act} {Q : Exit → Act → World → Prop} (hgd : o.guard = none) (s x : Operand) (ta tb : TypeId)
    (ho : o.op = .call { callee := .builtin .append, args := #[s, x], argTypes := #[ta, tb] }) {v u : Value} (hs : a.eval s = v) (hx : a.eval x = u) {v' : Value} {w' : World} (hr : (Builtin.append_ #[ta, tb] o.type #[v, u]).run P w = .ok v' w')
    (h : wpList P ops Q rest (a.put o.dst v') w') : wpList P ops Q (o :: rest) a w := by
  refine wpList_plain hgd fun K hK => ?_
  unfold Oper.wp execOp
  simp only [ho, resolve, invoke, builtin, Sem.run_bind, Sem.run_pure, Result.andThen_ok, List.map_toArray, List.map_cons, List.map_nil, hs, hx, hr]
  exact hK _ _ h
theorem grow_walk1 (n : Nat) (h0 : 0 < n) (hn : n ≤ 1024) (w : World) : Calls Tryz.prog 115 #[.slice none 0 0, .int .i64 (n : Int)] w fun e w' =>
    ∃ c cs, n ≤ c ∧ cs.size = c * 2 ∧ e = .returned (.slice (some ⟨w.heap.size, 0, none⟩) 0 c) ∧ w' = w.drew.alloc (.cells cs 85) := by
  obtain ⟨i, hi, hz0, hz1, hz2⟩ := Ev.info_parts' infoA
  have hrun := fun ty W => run_grow0 (P := Tryz.prog) (w := W) 83 3 ty 85 i _ Tryz.underlying83 Tryz.underlying3 hi hz0 n h0 hn (by rw [hz1]; decide) (by rw [hz1]; decide) (by rw [hz2]; decide)
  have hge := grown_ge w n 85
  have hsz : (Builtin.zeroCells (Value.agg #[.int .i64 0, .int .i64 0]).cells n ++ Builtin.zeroCells (Value.agg #[.int .i64 0, .int .i64 0]).cells (grownCap w n 0 85 - n)).size = grownCap w n 0 85 * 2 := by
    rw [Array.size_append]
    show (Builtin.zeroCells (#[.int .i64 0, .int .i64 0] : Array Value) n).size + (Builtin.zeroCells (#[.int .i64 0, .int .i64 0] : Array Value) (grownCap w n 0 85 - n)).size = _
    rw [zero_size, zero_size]; omega
  generalize hcs : (Builtin.zeroCells (Value.agg #[.int .i64 0, .int .i64 0]).cells n ++ Builtin.zeroCells (Value.agg #[.int .i64 0, .int .i64 0]).cells (grownCap w n 0 85 - n)) = cs at hsz
  have hrun := fun ty => (hrun ty w).trans (by rw [hcs])
  generalize grownCap w n 0 85 = c at *
  have d1 : decide ((n : Int) < 0) = false := decide_eq_false (by omega)
  have d2 : decide ((0 : Int) < (n : Int)) = true := decide_eq_true (by omega)
  have hw : IntKind.i64.wrap (n : Int) = n := Ev.wrap_small (by omega)
  clear hcs hz0 hz1 hz2 hi
  go_enter Tryz.func115, Tryz.ntmps115
  go_wp2_with (at_builtin; refine wpList_append_run rfl _ _ _ _ rfl rfl rfl (hrun _) ?_)
  go_ret
  exact ⟨c, cs, hge, hsz, rfl, rfl⟩
namespace Ev
def smArg (l : List AV) : Option Nat := match l with
  | [.v (.c (.md k r e)), .v (.c (.int .i64 (.ofNat k')))] => chk (Nat.beq k' k) (chk (Nat.blt 0 k) (chk (Nat.blt k 4611686018427387904) (some r.natAbs)))
  | _ => none
def smallF : CallF := fun f l s => chk (Nat.beq f 22) ((smArg l).bind fun r => some (.v (.c (.int .i64 (.ofNat r))), s))
noncomputable def smallK : CallK := fun f l s => ib (Nat.beq f 22) (ob (smArg l) fun r => some (.v (.c (.int .i64 (.ofNat r))), s)) none
theorem small_eq : CallEq smallK smallF := by
  intro f l s
  simp only [smallK, smallF, ib_eq, ob_eq, map_chk, map_bind']
  rfl
theorem small_upd : CallUpd smallF := by
  intro f l s v s' h ht
  simp only [smallF, chk_some, Option.bind_eq_some_iff] at h
  obtain ⟨_, r, _, h⟩ := h
  cases h; exact Upd.refl s
theorem two_args {φ : Mp} {a b : AV} {args : Array Value} (hv : VAs φ [a, b] args.toList) : ∃ u u', args = #[u, u'] ∧ VA φ a u ∧ VA φ b u' := by
  cases hl : args.toList with
  | nil => rw [hl] at hv; exact hv.elim
  | cons u us => cases us with
    | nil => rw [hl] at hv; exact hv.2.elim
    | cons u' us => cases us with
      | nil => rw [hl] at hv; exact ⟨u, u', Array.ext' hl, hv.1, hv.2.1⟩
      | cons _ _ => rw [hl] at hv; exact hv.2.2.elim
theorem small_ok {K : Nat → Option Obj} : CallOk Tryz.prog K smallF := by
  intro f l s v s' h φ w args hr hK hv
  simp only [smallF, chk_some, Option.bind_eq_some_iff] at h
  obtain ⟨hf, r, ha, h⟩ := h
  have hf := Nat.eq_of_beq_eq_true hf
  subst hf
  cases h
  unfold smArg at ha
  split at ha
  · rename_i k q e k'
    simp only [chk_some, Nat.blt_eq] at ha
    obtain ⟨e1, e2, e3, e4⟩ := ha
    have e1 := Nat.eq_of_beq_eq_true e1
    subst e1
    cases e4
    obtain ⟨u, u', rfl, h1, h2⟩ := two_args hv
    obtain ⟨n, rfl, hm⟩ := h1
    have h2 : u' = _ := h2
    subst h2
    refine ⟨callFunc_body Tryz.func22 rfl (of_decide_eq_false (by kernel_rfl)), ?_⟩
    have hq : (n.tmod (k' : Int)).natAbs = q.natAbs := by
      cases e with
      | true => have hm : Int.tmod n (Int.ofNat k') = q := hm; rw [← hm]; rfl
      | false => exact hm
    refine (small_walk n k' e2 e3 w).mono ?_
    rintro ev w' ⟨rfl, rfl⟩
    exact ⟨φ, _, Out.refl hr, rfl, by rw [hq]; rfl⟩
  · cases ha
def grArg (l : List AV) : Option Nat := match l with
  | [.v (.c .snil), .v (.c (.int .i64 (.ofNat n)))] => chk (Nat.ble n 1024) (some n)
  | _ => none
def growF : CallF := fun f l s => chk (Nat.beq f 115) ((grArg l).bind fun n => match Nat.beq n 0 with
  | true => some (.v (.c .snil), s)
  | false => (s.new ⟨[], 85, 2, none⟩).bind fun q => some (.v (.c (.slice q.1 0 0 (.opn 0))), q.2))
noncomputable def growK : CallK := fun f l s => ib (Nat.beq f 115) (ob (grArg l) fun n => ib (Nat.beq n 0) (some (.v (.c .snil), s)) (os2 (newK s ⟨[], 85, 2, none⟩) fun b s => some (.v (.c (.slice b 0 0 (.opn 0))), s))) none
theorem grow_eq : CallEq growK growF := by
  intro f l s
  simp only [growK, growF, ib_eq, ob_eq, map_chk, map_bind']
  congr 1
  congr 1; funext n
  cases Nat.beq n 0 with
  | true => rfl
  | false =>
    show Option.map absP (os2 (newK s ⟨[], 85, 2, none⟩) fun b s => some (AV.v (TV.c (CV.slice b 0 0 (Cap.opn 0))), s)) = ((absS s).new ⟨[], 85, 2, none⟩).bind fun q => some (AV.v (TV.c (CV.slice q.1 0 0 (Cap.opn 0))), q.2)
    rw [← newK_eq]
    cases newK s ⟨[], 85, 2, none⟩ with
    | none => rfl
    | some p => rfl
theorem grow_upd : CallUpd growF := by
  intro f l s v s' h ht
  simp only [growF, chk_some, Option.bind_eq_some_iff] at h
  obtain ⟨_, n, _, h⟩ := h
  split at h
  · cases h; exact Upd.refl s
  · simp only [Option.bind_eq_some_iff] at h
    obtain ⟨q, h1, h2⟩ := h
    cases h2
    exact new_upd (b := q.1) (s' := q.2) h1
theorem grow_ok {K : Nat → Option Obj} : CallOk Tryz.prog K growF := by
  intro f l s v s' h φ w args hr hK hv
  simp only [growF, chk_some, Option.bind_eq_some_iff] at h
  obtain ⟨hf, n, ha, h⟩ := h
  have hf := Nat.eq_of_beq_eq_true hf
  subst hf
  unfold grArg at ha
  split at ha
  · rename_i n'
    simp only [chk_some, Nat.ble_eq] at ha
    obtain ⟨e1, e2⟩ := ha
    cases e2
    obtain ⟨u, u', rfl, h1, h2⟩ := two_args hv
    have h1 : u = .slice none 0 0 := h1
    have h2 : u' = .int .i64 (Int.ofNat n) := h2
    subst h1; subst h2
    refine ⟨callFunc_body Tryz.func115 rfl (of_decide_eq_false (by kernel_rfl)), ?_⟩
    cases hn : Nat.beq n 0 with
    | true =>
      rw [hn] at h
      have := Nat.eq_of_beq_eq_true hn
      subst this
      cases h
      refine (grow_walk0 w).mono ?_
      rintro ev w' ⟨rfl, rfl⟩
      exact ⟨φ, _, Out.refl hr, rfl, rfl⟩
    | false =>
      rw [hn] at h
      simp only [Option.bind_eq_some_iff] at h
      obtain ⟨q, h1, h2⟩ := h
      cases h2
      have hn0 := beq_ne hn
      refine (grow_walk1 n (by omega) e1 w).mono ?_
      rintro ev w' ⟨c, cs, hc1, hc2, rfl, rfl⟩
      have hd := Out.same hr (grew_drew w)
      obtain ⟨g1, g2⟩ := new_out (κ := c) hd.rel (B := ⟨[], 85, 2, none⟩) (b := q.1) (s' := q.2) h1 (grew_alloc w.drew _) (alloc_last w.drew (.cells cs 85 (0, 0)))
        (HO.of_cells (B := ⟨[], 85, 2, none⟩) rfl ⟨[], [], cs.toList, rfl, trivial, by simp, fun h => (by cases h), fun _ => by simpa using hc2⟩)
      exact ⟨_, _, Out.trans hr hd g1, ⟨_, g2, by simp⟩, rfl⟩
  · cases ha
end Ev
end Go.Proofs.YtjbnkokcbhfdgabGreatDoor
