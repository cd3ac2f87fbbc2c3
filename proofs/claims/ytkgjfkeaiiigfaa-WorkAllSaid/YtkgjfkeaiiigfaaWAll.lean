/- WorkAll: the walk: what waits waits once; picks say which goes. -/
import Derived.Test.YtkgjfkeaiiigfaaWTurned
namespace Go.Proofs.Ytkgjfkeaiiigfaa
open Go.RowKit Go.Maps Go.ChangeMaps Go.MapKept
set_option linter.unusedVariables false

/-- an append inside a region that draws its order -/
theorem step_append {P : Program} {w : World} {ops : Array Oper} {o : Oper} {a : Act} {K : Act → World → Prop} {Q : Exit → Act → World → Prop} {E : Prop} (hgd : o.guard = none) (s x : Operand) (t : TypeId)
    (ho : o.op = .call { callee := .builtin .append, args := #[s, x], argTypes := #[t, t] })
    (base : Nat) (e : TypeId) (i : TypeInfo) (z : Value) (size bytes : Nat) (ht : P.underlying t = some (.slice e)) (hi : P.info? e = some i) (hz : i.zero = some z)
    (hsize : i.size = size) (hby : i.bytes = bytes) (hzs : z.cells.size = size) (hsz : 0 < size)
    (v : Value) (n : Nat) (xs : List Value) (hs : a.eval s = v) (hown : w.ownsRow base e size v n xs)
    (ad : Addr) (m c : Nat) (news : List Value) (hx : a.eval x = .slice (some ad) m c) (hl : news.length = m * size) (hnews : ∀ j u, news[j]? = some u → w.cell? (ad.add j) = some u) (h1 : ∀ u ∈ news, u.oneCell' = true)
    (h63 : n + m ≤ maxLen) (hbytes : (n + m) * bytes ≤ 140737488355328) (hbase : base ≤ w.heap.size)
    (h : ∀ v' w', w'.ownsRow base e size v' (n + m) (xs ++ news) → w.grownBy w' v.ownBlock → (v'.ownBlock = v.ownBlock ∨ v'.ownBlock = some w.heap.size) → K (a.put o.dst v') w') :
    if Region.wanted o (yielded ops a.tmps) = true then Oper.wp P o a w K Q else E := by
  rw [if_pos (by simp [Region.wanted, hgd])]
  obtain ⟨v', w', hr, h2, h3, h4, h5⟩ := run_append_own_at (P := P) w base t o.type e i z size bytes ht hi hz hsize hby hzs hsz v n xs hown ad m c news hl hnews h1 h63 hbytes hbase
  unfold Oper.wp execOp
  simp only [ho, resolve, invoke, builtin, Sem.run_bind, Sem.run_pure, Result.andThen_ok, List.map_toArray, List.map_cons, List.map_nil, hs, hx, hr]
  exact h v' w' h2 h3 h5

/-- the Pushes and Pops of a slice that is only read -/
def ReadsOps (w : World) (v : Value) (l : List (Bool × Int)) : Prop := ∃ A c, v = .slice A l.length c ∧ l.length ≤ c ∧ c ≤ maxLen ∧ (∀ x ∈ l, (Lit.int .i64 x.2).wf = true) ∧
  (0 < l.length → ∃ b off, A = some ⟨b, off, none⟩ ∧ ∀ j, j < l.length → w.cell? ⟨b, off + j * 2, none⟩ = some (.bool (l.getD j (false, 0)).1) ∧ w.cell? ⟨b, off + j * 2 + 1, none⟩ = some (.int .i64 (l.getD j (false, 0)).2))

def AllInv (w : World) (lb : Nat) (pl : List Int) (m p i : Value) (wr : World) : Prop := ∃ (k pops : Nat) (ms : List Int) (S : Nat → Prop), k ≤ 80 ∧ i = .int .i64 k ∧ p = .int .i64 pops ∧ ms.length + pops ≤ k ∧ (∀ x ∈ ms, (Lit.int .i64 x).wf = true) ∧
  wr.ownsRow 0 3 1 m ms.length (ints ms) ∧ IsList S wr lb pl ms pops ∧ (∀ b, S b → w.heap.size ≤ b ∧ b < wr.heap.size) ∧ (∀ b, m.ownBlock = some b → w.heap.size ≤ b ∧ ¬ S b) ∧ Below w.heap.size w wr

theorem pw_drewN {B : Nat} {w W : World} (h : Below B w W) (n : Nat) : Below B w (W.drewN n) := ⟨h.os, h.tape, h.output, h.size, h.block⟩

theorem in_take (ms : List Int) (x : Int) (j : Nat) (h : j < ms.length) : decide (x ∈ ms.take (j + 1)) = (decide (x ∈ ms.take j) || (ms.getD j 0 == x)) := by
  have e : x ∈ ms.take (j + 1) ↔ x ∈ ms.take j ∨ x = ms[j] := by rw [List.take_succ_eq_append_getElem h, List.mem_append, List.mem_singleton]
  rw [List.getD_eq_getElem?_getD, List.getElem?_eq_getElem h, Option.getD_some, Bool.eq_iff_iff, decide_eq_true_iff, e, Bool.or_eq_true, decide_eq_true_iff, beq_iff_eq]
  exact or_congr Iff.rfl eq_comm

theorem all_old {w wo : World} {lb k pops nq : Nat} {pl ms : List Int} {m : Value} {S : Nat → Prop} {o : Obj} (hk : k < 80) (hkb : ms.length + pops ≤ k) (hmw : ∀ x ∈ ms, (Lit.int .i64 x).wf = true)
    (r : wo.ownsRow 0 3 1 m ms.length (ints ms)) (L : IsList S wo lb pl ms pops) (hS : ∀ b, S b → w.heap.size ≤ b ∧ b < wo.heap.size) (hm : ∀ b, m.ownBlock = some b → w.heap.size ≤ b ∧ ¬ S b) (B : Below w.heap.size w wo) :
    AllInv w lb pl m (.int .i64 pops) (.int .i64 ((k : Int) + 1)) ((wo.alloc o).drewN nq) := by
  have old : ∀ b, b < wo.heap.size → ((wo.alloc o).drewN nq).heap[b]? = wo.heap[b]? := fun b hb => alloc_old _ _ _ hb
  refine ⟨k + 1, pops, ms, S, hk, by simp, rfl, by omega, hmw, row_move r fun b hb => old b (row_lt r hb), L.move fun b _ hb => old b hb, fun b hb => ⟨(hS b hb).1, ?_⟩, hm, ?_⟩
  · have := (hS b hb).2
    show b < (wo.alloc o).heap.size
    rw [alloc_size]; omega
  · have B1 := B.alloc B.size o
    exact ⟨B1.os, B1.tape, B1.output, B1.size, B1.block⟩

theorem all_new {w wo w1 w2 : World} {lb k pops : Nat} {pl ms : List Int} {x : Int} {m m' : Value} {S : Nat → Prop} {o o' : Obj} {W : World} (hW : W.heap = (wo.alloc o).heap) (hk : k < 80) (hkb : ms.length + pops ≤ k) (hmw : ∀ x ∈ ms, (Lit.int .i64 x).wf = true) (hx : (Lit.int .i64 x).wf = true)
    (r : wo.ownsRow 0 3 1 m ms.length (ints ms)) (hS : ∀ b, S b → w.heap.size ≤ b ∧ b < wo.heap.size) (hm : ∀ b, m.ownBlock = some b → w.heap.size ≤ b ∧ ¬ S b) (B : Below w.heap.size w wo) (BW : Below w.heap.size w W)
    (L : IsList (fun b => S b ∨ (W.heap.size ≤ b ∧ b < w1.heap.size)) w1 lb pl (ms ++ [x]) pops) (F : Fr S W w1)
    (r2 : w2.ownsRow 0 3 1 m' (ms.length + 1) (ints ms ++ [.int .i64 x])) (G : (w1.alloc o').grownBy w2 m.ownBlock)
    (hat : m'.ownBlock = m.ownBlock ∨ m'.ownBlock = some (w1.alloc o').heap.size) : AllInv w lb pl m' (.int .i64 pops) (.int .i64 ((k : Int) + 1)) w2 := by
  have z0 := B.size
  have z1 := F.size
  have z2 := G.size
  have zW : W.heap.size = wo.heap.size + 1 := by rw [hW]; exact alloc_size _ _
  rw [alloc_size] at z2 hat
  refine ⟨k + 1, pops, ms ++ [x], fun b => S b ∨ (W.heap.size ≤ b ∧ b < w1.heap.size), hk, by simp, rfl, by simp; omega, ?_, by simpa [ints] using r2, ?_, ?_, ?_, ?_⟩
  · intro y hy
    rcases List.mem_append.1 hy with h | h
    · exact hmw y h
    · obtain rfl : y = x := by simpa using h
      exact hx
  · refine L.move fun b hb hlt => ?_
    refine (G.block b (by rw [alloc_size]; omega) (fun h => ?_)).trans (alloc_old _ _ _ hlt)
    rcases hb with hb | hb
    · exact (hm b h.symm).2 hb
    · have := row_lt r h.symm; omega
  · intro b hb
    rcases hb with hb | hb
    · have := hS b hb; omega
    · omega
  · intro b hb
    rcases hat with h | h
    · rw [h] at hb
      refine ⟨(hm b hb).1, fun hb' => ?_⟩
      rcases hb' with hb' | hb'
      · exact (hm b hb).2 hb'
      · have := row_lt r hb; omega
    · rw [h] at hb
      injection hb with hb
      refine ⟨by omega, fun hb' => ?_⟩
      rcases hb' with hb' | hb'
      · have := hS b hb'; omega
      · omega
  · have B1 : Below w.heap.size w w1 := BW.trans (F.below (S := S) BW.size fun b hb => (hS b hb).1)
    exact (B1.alloc (by omega) _).grown G (by rw [alloc_size]; omega) fun b hb => (hm b hb).1

/-- behind a Pop that had something: the rest of the two slices put together anew -/
theorem all_pop {w wo w1 w2 w3 : World} {lb k pops at_ : Nat} {pl ms : List Int} {m' v1 : Value} {S : Nat → Prop} {o : Obj} {W : World} (hW : W.heap = (wo.alloc o).heap) (hk : k < 80) (hkb : ms.length + pops ≤ k) (hmw : ∀ x ∈ ms, (Lit.int .i64 x).wf = true) (hat : at_ < ms.length)
    (hS : ∀ b, S b → w.heap.size ≤ b ∧ b < wo.heap.size) (B : Below w.heap.size w wo) (BW : Below w.heap.size w W)
    (L : IsList S w1 lb pl (ms.eraseIdx at_) (pops + 1)) (F : Fr S W w1) (G : w1.grownBy w2 none) (G2 : w2.grownBy w3 v1.ownBlock) (hv1 : v1.ownBlock = none ∨ v1.ownBlock = some w1.heap.size)
    (r2 : w3.ownsRow 0 3 1 m' (ms.length - 1) (ints (ms.eraseIdx at_))) (hm' : m'.ownBlock = v1.ownBlock ∨ m'.ownBlock = some w2.heap.size) :
    AllInv w lb pl m' (.int .i64 ((pops : Int) + 1)) (.int .i64 ((k : Int) + 1)) w3 := by
  have z0 := B.size
  have z1 := F.size
  have z2 := G.size
  have z3 := G2.size
  have zW : W.heap.size = wo.heap.size + 1 := by rw [hW]; exact alloc_size _ _
  have el := List.length_eraseIdx_of_lt hat
  have nv : ∀ b, b < w1.heap.size → some b ≠ v1.ownBlock := by
    intro b hb e
    rcases hv1 with h | h
    · rw [h] at e; cases e
    · rw [h] at e; injection e with e; omega
  have new : ∀ b, m'.ownBlock = some b → w1.heap.size ≤ b := by
    intro b hb
    rcases hm' with h | h
    · rw [h] at hb
      rcases hv1 with h1 | h1
      · rw [h1] at hb; cases hb
      · rw [h1] at hb; injection hb with hb; omega
    · rw [h] at hb; injection hb with hb; omega
  have B1 : Below w.heap.size w w1 := BW.trans (F.below (S := S) BW.size fun b hb => (hS b hb).1)
  have B2 : Below w.heap.size w w2 := B1.grown G (by omega) (fun b hb => by cases hb)
  refine ⟨k + 1, pops + 1, ms.eraseIdx at_, S, hk, by simp, by simp, by omega, fun x hx => hmw x (List.mem_of_mem_eraseIdx hx), by rw [el]; exact r2, ?_, fun b hb => ⟨(hS b hb).1, by have := (hS b hb).2; omega⟩, fun b hb => ?_, ?_⟩
  · exact L.move fun b hb hlt => (G2.block b (by omega) (nv b hlt)).trans (G.block b hlt (by simp))
  · have := new b hb
    exact ⟨by omega, fun hb' => by have := (hS b hb').2; omega⟩
  · refine B2.grown G2 (by omega) fun b hb => ?_
    rcases hv1 with h | h
    · rw [h] at hb; cases hb
    · rw [h] at hb; injection hb with hb; omega

theorem ints_one (l : List Int) : ∀ u ∈ (ints l), u.oneCell' = true := by
  intro u hu
  simp [ints] at hu
  obtain ⟨a, _, rfl⟩ := hu
  rfl
theorem ints_take (l : List Int) (n : Nat) : (ints l).take n = ints (l.take n) := by simp [ints]
theorem ints_drop (l : List Int) (n : Nat) : (ints l).drop n = ints (l.drop n) := by simp [ints]
theorem pop_news1 {w : World} {g n : Nat} {ms : List Int} (h : ∀ j, j < ms.length → w.cell? ⟨g, j, none⟩ = (ints ms)[j]?) (hn : n ≤ ms.length) :
    ∀ (j : Nat) (u : Value), (ints (ms.take n))[j]? = some u → w.drew.cell? ((⟨g, 0, none⟩ : Addr).add j) = some u := by
  intro j u hu
  have hj : j < n := by
    have := (List.getElem?_eq_some_iff.1 hu).1
    simp [ints] at this
    omega
  have ha : (⟨g, 0, none⟩ : Addr).add j = ⟨g, j, none⟩ := by unfold Addr.add; split <;> simp_all
  rw [ha]
  refine (h j (by omega)).trans ?_
  rw [← ints_take, List.getElem?_take_of_lt hj] at hu
  exact hu
theorem cut_front {n c g : Nat} (a : Int) (k : Nat) (ha : a = k) (hk : k ≤ n) (hn : n ≤ c) : ∀ W : World, (Instr.slice 22 (.slice (some ⟨g, 0, none⟩) n c) none (some (.int .i64 a)) none).run Try.prog W = .ok (.slice (some ⟨g, 0, none⟩) k c) W := by
  intro W
  obtain ⟨i0, hi, _, hz1, _⟩ := info_parts info3
  have hel : Try.prog.elem 22 = 3 := by simp [Program.elem, Try.underlying22]
  have hu : Try.prog.underlying 22 = some (.slice (Try.prog.elem 22)) := by rw [hel]; exact Try.underlying22
  subst ha
  rw [run_slice_h W 22 (some ⟨g, 0, none⟩) n c hu .i64 (k : Int) (by omega) (by omega), hel]
  simp [sizeOf, typeInfo, hi, hz1, sliced, Result.andThen, Addr.add]
theorem cut_back {n c g : Nat} (a : Int) (k : Nat) (ha : a = k) (hk : k ≤ n) (hn : n ≤ c) : ∃ AD : Addr, (∀ W : World, (Instr.slice 22 (.slice (some ⟨g, 0, none⟩) n c) (some (.int .i64 a)) none none).run Try.prog W = .ok (.slice (some AD) (n - k) (c - k)) W) ∧ (k < n → AD = ⟨g, k, none⟩) := by
  obtain ⟨i0, hi, _, hz1, _⟩ := info_parts info3
  have hel : Try.prog.elem 22 = 3 := by simp [Program.elem, Try.underlying22]
  have hu : Try.prog.underlying 22 = some (.slice (Try.prog.elem 22)) := by rw [hel]; exact Try.underlying22
  subst ha
  by_cases hc : c = k
  · refine ⟨⟨g, 0, none⟩, fun W => ?_, fun h => by omega⟩
    rw [run_slice_l W 22 (some ⟨g, 0, none⟩) n c hu .i64 (k : Int) (by omega) (by omega), hel]
    simp [sizeOf, typeInfo, hi, hz1, sliced, Result.andThen, hc]
  · refine ⟨(⟨g, 0, none⟩ : Addr).add k, fun W => ?_, fun h => by unfold Addr.add; split <;> simp_all⟩
    rw [run_slice_l W 22 (some ⟨g, 0, none⟩) n c hu .i64 (k : Int) (by omega) (by omega), hel]
    simp [sizeOf, typeInfo, hi, hz1, sliced, Result.andThen, hc]
theorem pop_cell {w3 w4 w5 : World} {g k : Nat} {v1 y : Value} (hg1 : w3.grownBy w4 (Value.slice none 0 0).ownBlock) (hg2 : w4.grownBy w5 v1.ownBlock) (hat : v1.ownBlock = (Value.slice none 0 0).ownBlock ∨ v1.ownBlock = some w3.heap.size) (hg : g < w3.heap.size)
    (h : w4.cell? ⟨g, k, none⟩ = some y) : w5.cell? ⟨g, k, none⟩ = some y := by
  refine hg2.cell h (fun e => ?_)
  rcases hat with h1 | h1
  · rw [h1] at e; simp [Value.ownBlock] at e
  · rw [h1] at e; injection e with e; simp at e; omega
theorem pop_news2 {w : World} {g n : Nat} {ms : List Int} (h : ∀ j, j < ms.length → w.cell? ⟨g, j, none⟩ = (ints ms)[j]?) :
    ∀ (j : Nat) (u : Value), (ints (ms.drop n))[j]? = some u → w.cell? ((⟨g, n, none⟩ : Addr).add j) = some u := by
  intro j u hu
  have hj : n + j < ms.length := by
    have := (List.getElem?_eq_some_iff.1 hu).1
    simp [ints] at this
    omega
  have ha : (⟨g, n, none⟩ : Addr).add j = ⟨g, n + j, none⟩ := by unfold Addr.add; split <;> simp_all
  rw [ha]
  refine (h (n + j) hj).trans ?_
  rw [← ints_drop, List.getElem?_drop] at hu
  exact hu

theorem pop_news3 {w3 w4 : World} {g n : Nat} {ms : List Int} {AD : Addr} (h : ∀ j, j < ms.length → w3.cell? ⟨g, j, none⟩ = (ints ms)[j]?) (hAD : n < ms.length → AD = ⟨g, n, none⟩) (hg : w3.grownBy w4 (Value.slice none 0 0).ownBlock) (hlt : g < w3.heap.size) :
    ∀ (j : Nat) (u : Value), (ints (ms.drop n))[j]? = some u → w4.cell? (AD.add j) = some u := by
  intro j u hu
  have hj : n + j < ms.length := by
    have := (List.getElem?_eq_some_iff.1 hu).1
    simp [ints] at this
    omega
  rw [hAD (by omega)]
  exact hg.cell (pop_news2 h j u hu) (by simp [Value.ownBlock])

theorem all_start {w w1 w2 : World} {lb : Nat} (pl : List Int) (B1 : Below w.heap.size w w1) (B2 : Below w1.heap.size w1 w2) (L : IsList (fun k => w1.heap.size ≤ k ∧ k < w2.heap.size) w2 lb pl [] 0) :
    AllInv w lb pl (.slice none 0 0) (.int .i64 0) (.int .i64 0) w2 :=
  ⟨0, 0, [], _, Nat.zero_le _, rfl, rfl, Nat.le_refl _, by simp, World.ownsRow_nil _ _ _ _, L, fun b hb => ⟨Nat.le_trans B1.size hb.1, hb.2⟩, fun b hb => (by cases hb), B1.trans (B2.mono B1.size)⟩

set_option maxRecDepth 100000 in
set_option maxHeartbeats 2000000 in
theorem workAll_s (pA : Option Addr) (pn pc : Nat) (picks : List Int) (A : Option Addr) (n c : Nat) (l : List (Bool × Int)) (w : World) (hp : Reads w (.slice pA pn pc) picks) (h : ReadsOps w (.slice A n c) l) (hpn : pn ≤ 60) :
    Calls Try.prog 3 #[.slice pA pn pc, .slice A n c] w fun e w' => e = .returned (.bool true) ∧ Below w.heap.size w w' := by
  obtain ⟨pl, hpl⟩ : ∃ pl, pl = picks := ⟨_, rfl⟩
  have hpr : Reads w (.slice pA pn pc) pl := by rw [hpl]; exact hp
  have hplen : pl.length ≤ 60 := by obtain ⟨_, _, hv, _⟩ := hpr; injection hv with _ h2 _; omega
  obtain rfl : pn = pl.length := by obtain ⟨_, _, hv, _⟩ := hpr; injection hv with _ h2 _
  clear hpl
  obtain ⟨A', c', hv, hc, hcap, hwf, hA⟩ := h
  injection hv with h1 h2 h3
  subst h1 h2 h3
  have HA := Lib.hid hA; have HW := Lib.hid hwf; have RP := Lib.hid hpr
  clear hA hwf hp hpr
  unfold maxLen at hcap
  go_enter Try.func3, Try.ntmps3
  go_wp2_with fail
  refine (begun_true _).mono ?_
  rintro e w1 ⟨rfl, B⟩
  have B1 := Lib.hid B
  clear B
  go_wp2_with fail
  have RP1 := Lib.hid (RP.out.below B1.out)
  refine (new_any RP1.out (by omega)).mono ?_
  rintro e w2 ⟨lb, rfl, L, B⟩
  have I0 := Lib.hid (all_start pl B1.out B L)
  clear L B
  go_wp2_with fail
  go_loopw [7, 8, 9] (fun m p i wr => AllInv w lb pl m p i wr) (fun _ _ i _ => 80 - (intOf i).toNat)
  case atStart => exact I0.out
  case round =>
    obtain ⟨k, pops, ms, S, hk, rfl, rfl, hkb, hmw, r, L, hS, hm, B⟩ := id hrel
    obtain ⟨mA, mc, rfl⟩ := row_len r
    have R := Lib.hid r; have LL := Lib.hid L; have HS := Lib.hid hS; have HM := Lib.hid hm; have BB := Lib.hid B; have HMW := Lib.hid hmw; have HR := Lib.hid hrel
    clear r L hS hm B hmw hrel
    by_cases hlt : k < l.length
    · by_cases h80 : k < 80
      · obtain ⟨b, off, rfl, hcell⟩ := HA.out (by omega)
        obtain ⟨cb, cx⟩ := hcell k hlt
        have hx := HW.out (l.getD k (false, 0)) (by rw [List.getD_eq_getElem?_getD, List.getElem?_eq_getElem hlt]; exact List.getElem_mem hlt)
        have hbl := World.block_lt_of_cell? w _ cb
        simp at hbl
        have db := (BB.out.cell (p := ⟨b, off + k * 2, none⟩) hbl).trans cb
        have dx := (BB.out.cell (p := ⟨b, off + k * 2 + 1, none⟩) hbl).trans cx
        clear cb cx hcell
        generalize (l.getD k (false, 0)).2 = x at *
        generalize (l.getD k (false, 0)).1 = pop at *
        cases pop with
        | false =>
          go_wp2_with fail
          obtain ⟨wo, hwo⟩ : ∃ wo : World, wo = wr := ⟨_, rfl⟩
          subst hwo
          go_loopw [11, 12] (fun t q wi => ∃ (j nq : Nat), j ≤ ms.length ∧ q = .int .i64 j ∧ t = .bool (decide (x ∈ ms.take j)) ∧ wi = (wo.alloc (.cells #[.bool false, .int .i64 x] 28)).drewN nq) (fun _ q _ => ms.length - (intOf q).toNat)
          case atStart => exact ⟨0, 0, Nat.zero_le _, rfl, by simp, rfl⟩
          case round =>
            obtain ⟨j, nq, hj, rfl, rfl, rfl⟩ := hrel
            by_cases hjl : j < ms.length
            · obtain ⟨g, cap, he, hg0, hgl, hgc, hgm, gcell, gfree⟩ := row_form R.out (by omega)
              injection he with he1 he2 he3
              subst he1 he3
              have cm := gcell j hjl
              have ecm : (ints ms)[j]? = some (.int .i64 (ms.getD j 0)) := by simp [ints, List.getD_eq_getElem?_getD, List.getElem?_eq_getElem hjl]
              rw [ecm] at cm
              have et := in_take ms x j hjl
              have cm2 : (wo.alloc (.cells #[.bool false, .int .i64 x] 28)).cell? ⟨g, j, none⟩ = some (.int .i64 (ms.getD j 0)) := (World.cell?_of_block (alloc_old _ _ _ hgl)).trans cm
              have ET := Lib.hid et
              clear et gcell gfree ecm he2
              generalize ms.getD j 0 = y at *
              cases ht : decide (x ∈ ms.take j) with
              | true =>
                have HT := Lib.hid ht
                clear ht
                go_wp2_with fail
                go_quiet (fail)
                go_wp2_with fail
                go_roundw
                case rel => exact ⟨j + 1, _, hjl, by simp, by rw [ET.out, HT.out]; rfl, rfl⟩
                case measure => simp [intOf]; omega
              | false =>
                have HT := Lib.hid ht
                clear ht
                go_wp2_with fail
                go_quiet (fail)
                go_wp2_with fail
                go_roundw
                case rel => exact ⟨j + 1, _, hjl, by simp, by rw [ET.out, HT.out]; simp, rfl⟩
                case measure => simp [intOf]; omega
            · obtain rfl : j = ms.length := by omega
              rw [List.take_length]
              have hW : ((wo.alloc (.cells #[.bool false, .int .i64 x] 28)).drewN nq).heap = (wo.alloc (.cells #[.bool false, .int .i64 x] 28)).heap := rfl
              have LW : IsList S ((wo.alloc (.cells #[.bool false, .int .i64 x] 28)).drewN nq) lb pl ms pops := LL.out.move fun b _ hb => alloc_old _ _ _ hb
              have P1 := Lib.hid (fun hin => push_old LW x hx hin)
              have P2 := Lib.hid (fun hin => push_new LW x hx hin (by omega))
              have BW : Below w.heap.size w ((wo.alloc (.cells #[.bool false, .int .i64 x] 28)).drewN nq) := pw_drewN (BB.out.alloc BB.out.size _) nq
              have HBW := Lib.hid BW; have HHW := Lib.hid hW
              clear LW BW hW
              cases ht : decide (x ∈ ms) with
              | true =>
                have HI := Lib.hid (of_decide_eq_true ht)
                clear ht
                go_wp2_with fail
                refine (P1.out HI.out).mono ?_
                rintro e w' ⟨rfl, rfl⟩
                go_wp2_with fail
                go_roundw
                case rel => exact all_old h80 hkb HMW.out R.out LL.out HS.out HM.out BB.out
                case measure => simp [intOf]; omega
              | false =>
                have HI := Lib.hid (of_decide_eq_false ht)
                clear ht
                go_wp2_with fail
                refine (P2.out HI.out).mono ?_
                rintro e w3 ⟨rfl, L3, F3⟩
                have co : w3.cell? ⟨wo.heap.size, 1, none⟩ = some (.int .i64 x) := by
                  have e1 : w3.heap[wo.heap.size]? = some (.cells #[.bool false, .int .i64 x] 28 (0, 0)) :=
                    (F3.block _ (by rw [HHW.out, alloc_size]; omega) (fun hb => by have := (HS.out _ hb).2; omega)).trans (alloc_at wo _ _ rfl)
                  exact blk_cells e1 1
                have R3 := Lib.hid (row_move R.out fun b hb => (F3.block b (by rw [HHW.out, alloc_size]; have := row_lt R.out hb; omega) (HM.out b hb).2).trans (alloc_old wo _ _ (row_lt R.out hb)))
                have LL3 := Lib.hid L3; have FF3 := Lib.hid F3
                obtain ⟨i0, hi, hz0, hz1, hz2⟩ := info_parts info3
                clear L3 F3
                go_wp2_with (first
                  | (at_builtin; refine wpList_append_own_at _ rfl _ _ 22 rfl 0 3 i0 (.int .i64 0) 1 8 Try.underlying22 hi hz0 hz1 hz2 rfl (by decide) (.slice mA ms.length mc) ms.length (ints ms) rfl (R3.out.alloc _) ⟨w3.heap.size, 0, none⟩ 1 1 [.int .i64 x] rfl rfl (one_cell _ _ _) (one_int _ _) (by unfold maxLen; omega) (by omega) (Nat.zero_le _) ?_; intro v' w4 hown hgrow hnn hat; clear hnn; have HO := Lib.hid hown; have HG := Lib.hid hgrow; have HAT := Lib.hid hat; clear hown hgrow hat)
                  | go_in)
                go_roundw
                case rel => exact all_new HHW.out h80 hkb HMW.out hx R.out HS.out HM.out BB.out HBW.out LL3.out FF3.out HO.out HG.out HAT.out
                case measure => simp [intOf]; omega
        | true =>
          have hW : (wr.alloc (.cells #[.bool true, .int .i64 x] 28)).heap = (wr.alloc (.cells #[.bool true, .int .i64 x] 28)).heap := rfl
          have LW : IsList S (wr.alloc (.cells #[.bool true, .int .i64 x] 28)) lb pl ms pops := LL.out.move fun b _ hb => alloc_old _ _ _ hb
          have HBW := Lib.hid (BB.out.alloc BB.out.size (.cells #[.bool true, .int .i64 x] 28))
          have LLW := Lib.hid LW
          clear LW hW
          by_cases hms : 0 < ms.length
          · have hpl := place_lt pl pops ms.length hms
            have pop1 := pop_any LLW.out hms (by omega) (by omega) (by omega) HMW.out
            obtain ⟨g, cap, he, hg0, hgl, hgc, hgm, gcell, gfree⟩ := row_form R.out hms
            injection he with he1 he2 he3
            subst he1 he3
            have el := List.length_eraseIdx_of_lt hpl
            generalize hat : place pl pops ms.length = at_ at *
            have hy : (ints ms)[at_]? = some (.int .i64 (ms.getD at_ 0)) := by simp [ints, List.getD_eq_getElem?_getD, List.getElem?_eq_getElem hpl]
            have cm := gcell at_ hpl
            rw [hy] at cm
            have PP := Lib.hid pop1; have HAT := Lib.hid hat; have GC := Lib.hid gcell; have HEL := Lib.hid el
            clear pop1 hat gcell gfree he2 hy el
            generalize hyy : ms.getD at_ 0 = y at *
            clear hyy
            have hgS : ¬ S g := (HM.out g rfl).2
            go_wp2_with fail
            refine PP.out.mono ?_
            rintro e w3 ⟨rfl, L3, F3⟩
            have cells3 : ∀ j, j < ms.length → w3.cell? ⟨g, j, none⟩ = (ints ms)[j]? := fun j hj =>
              (World.cell?_of_block ((F3.block g (by rw [alloc_size]; omega) hgS).trans (alloc_old wr _ _ hgl))).trans (GC.out j hj)
            have cy : w3.cell? ⟨g, at_, none⟩ = some (.int .i64 y) := (World.cell?_of_block ((F3.block g (by rw [alloc_size]; omega) hgS).trans (alloc_old wr _ _ hgl))).trans cm
            have B3 : Below w.heap.size w w3 := HBW.out.trans (F3.below (S := S) HBW.out.size fun b hb => (HS.out b hb).1)
            have RP3 := (RP.out.below B3)
            obtain ⟨A9, c9, hv9, hl9, hm9, hw9, hpc9⟩ := RP3
            injection hv9 with e1 e2 e3
            have C3 := Lib.hid cells3; have L33 := Lib.hid L3; have F33 := Lib.hid F3; have HPC := Lib.hid hpc9; have HE1 := Lib.hid e1
            obtain ⟨i0, hi, hz0, hz1, hz2⟩ := info_parts info3
            clear cells3 B3 L3 F3 hpc9 e1 e2 e3 hm9 hw9 hl9 PP
            have hm0 : ((ms.length : Int) == 0) = false := by rw [beq_eq_false_iff_ne]; omega
            have HN : Calls Try.prog 11 #[.pointer (some ⟨lb, 0, none⟩)] w3 (fun e w' => e = .returned (.int .i64 ((ms.length : Int) - 1)) ∧ w3 = w') :=
              (len_any L33.out).mono fun e w' h => ⟨by rw [h.1, HEL.out]; congr 2; omega, h.2⟩
            have HNN := Lib.hid HN
            clear HN
            by_cases h1 : pops < pl.length
            · obtain ⟨pb9, po9, hA9, pcell9⟩ := HPC.out (by omega)
              have hAA := HE1.out
              rw [hA9] at hAA
              subst hAA
              have cp := pcell9 pops h1
              clear pcell9
              by_cases h2 : 0 ≤ pl.getD pops 0
              · have hk9 := HAT.out
                unfold place at hk9
                rw [if_pos ⟨h1, h2⟩] at hk9
                have hk0 := Int.emod_nonneg (pl.getD pops 0) (show (ms.length : Int) ≠ 0 by omega)
                have hk1 := Int.emod_lt_of_pos (pl.getD pops 0) (show (0 : Int) < ms.length by omega)
                have hkat : pl.getD pops 0 % (ms.length : Int) = (at_ : Int) := by omega
                generalize pl.getD pops 0 = q9 at *
                clear hk9
                go_wp2_with fail
                simp only [hkat]
                have AT := Lib.hid hkat
                clear hkat
                obtain ⟨AD, hs2, hAD⟩ := cut_back (n := ms.length) (c := mc) (g := g) ((at_ : Int) + 1) (at_ + 1) (by omega) (by omega) hgc
                have hs1 := cut_front (n := ms.length) (c := mc) (g := g) (at_) (at_) (by omega) (by omega) hgc
                have awr : IntKind.i64.wrap ((at_ : Int) + 1) = (at_ : Int) + 1 := IntWalk.i64_in _ (by omega)
                have C33 : ∀ j, j < ms.length → w3.drew.cell? ⟨g, j, none⟩ = (ints ms)[j]? := C3.out
                have hgd : g < w3.drew.heap.size := by have := F33.out.size; rw [alloc_size] at this; show g < w3.heap.size; omega
                have q63 : at_ + (ms.length - (at_ + 1)) ≤ maxLen := by unfold maxLen; omega
                have qby : (at_ + (ms.length - (at_ + 1))) * 8 ≤ 140737488355328 := by omega
                have qlen : (ints (ms.drop (at_ + 1))).length = (ms.length - (at_ + 1)) * 1 := by simp [ints]
                have QLEN := Lib.hid qlen
                clear qlen
                have CC := Lib.hid C33; have HPL := Lib.hid hpl; have HGC := Lib.hid hgc; have HMS := Lib.hid hms; have HAD := Lib.hid hAD; have HGD := Lib.hid hgd
                clear C33 hpl hgc hms hAD hgd
                go_region_held3 (fun w' => w'.cell? ⟨g, at_, none⟩ = some (.int .i64 y)) (first | exact cy | exact hc1 | exact hc2) (first
                  | (refine step_append rfl (.const (.slice none 0 0)) (.tmp 117) 22 rfl 0 3 i0 (.int .i64 0) 1 8 Try.underlying22 hi hz0 hz1 hz2 rfl (by decide) (.slice none 0 0) 0 [] rfl (World.ownsRow_nil _ _ _ _) ⟨g, 0, none⟩ at_ mc (ints (ms.take at_)) rfl (by have := HPL.out; simp [ints]; try omega) (pop_news1 C3.out (by have := HPL.out; omega)) (ints_one _) (by have := HPL.out; unfold maxLen; omega) (by have := HPL.out; omega) (Nat.zero_le _) ?_; intro v1 w4 hown1 hg1 hat1; have hc1 := hg1.cell (a := ⟨g, at_, none⟩) cy (by simp [Value.ownBlock]); simp only [Nat.zero_add, List.nil_append] at hown1; have H1 := Lib.hid hown1; have HA1 := Lib.hid hat1; clear hown1 hat1)
                  | (refine step_append rfl (.tmp 118) (.tmp 122) 22 rfl 0 3 i0 (.int .i64 0) 1 8 Try.underlying22 hi hz0 hz1 hz2 rfl (by decide) v1 at_ (ints (ms.take at_)) rfl H1.out AD (ms.length - (at_ + 1)) (mc - (at_ + 1)) (ints (ms.drop (at_ + 1))) rfl QLEN.out (pop_news3 CC.out HAD.out hg1 HGD.out) (ints_one _) q63 qby (Nat.zero_le _) ?_; intro v2 w5 hown2 hg2 hat2; have hc2 := pop_cell hg1 hg2 HA1.out HGD.out hc1; have H2 := Lib.hid hown2; have HA2 := Lib.hid hat2; clear hown2 hat2))
                have hpl := HPL.out
                have e5 : at_ + (ms.length - (at_ + 1)) = ms.length - 1 := by omega
                have r5 : w5.ownsRow 0 3 1 v2 (ms.length - 1) (ints (ms.eraseIdx at_)) := by
                  have h := H2.out
                  rw [e5] at h
                  rw [List.eraseIdx_eq_take_drop_succ]
                  simpa [ints] using h
                have L5 : IsList S w5 lb pl (ms.eraseIdx at_) (pops + 1) := L33.out.move fun b hb hlt => (hg2.block b (by have := hg1.size; have e : w3.drew.heap.size = w3.heap.size := rfl; omega) (fun e => by
                  rcases HA1.out with h | h
                  · rw [h] at e; simp [Value.ownBlock] at e
                  · rw [h] at e; injection e with e; have e2 : w3.drew.heap.size = w3.heap.size := rfl; omega)).trans (hg1.block b hlt (by simp [Value.ownBlock]))
                have len5 : Calls Try.prog 11 #[.pointer (some ⟨lb, 0, none⟩)] w5 fun e w' => e = .returned (.int .i64 (ms.length - 1 : Nat)) ∧ w5 = w' := (len_any L5).mono fun e w' h => ⟨by rw [h.1, HEL.out], h.2⟩
                have pops5 : Calls Try.prog 12 #[.pointer (some ⟨lb, 0, none⟩)] w5 fun e w' => e = .returned (.int .i64 ((pops : Int) + 1)) ∧ w5 = w' := (pops_any L5).mono fun e w' h => ⟨by rw [h.1]; simp, h.2⟩
                obtain ⟨A5, c5, rfl⟩ := row_len r5
                have R5 := Lib.hid r5; have LEN5 := Lib.hid len5; have POPS5 := Lib.hid pops5; have HG1 := Lib.hid hg1; have HG2 := Lib.hid hg2
                clear r5 len5 pops5 hg1 hg2 L5 hc1 hc2 e5 hs1 hs2 awr
                go_wp2_with fail
                refine LEN5.out.mono ?_
                rintro e w' ⟨rfl, rfl⟩
                go_wp2_with fail
                refine POPS5.out.mono ?_
                rintro e w' ⟨rfl, rfl⟩
                go_wp2_with fail
                go_roundw
                case rel =>
                  have g1 := HG1.out
                  exact all_pop (o := .cells #[.bool true, .int .i64 x] 28) rfl h80 hkb HMW.out hpl HS.out BB.out HBW.out L33.out F33.out ⟨g1.os, g1.tape, g1.output, g1.size, fun b hb _ => g1.block b hb (by simp [Value.ownBlock])⟩ HG2.out HA1.out R5.out HA2.out
                case measure => simp [intOf]; omega
              · have hk9 := HAT.out
                unfold place at hk9
                rw [if_neg (fun h => h2 h.2)] at hk9
                have h2' : decide (0 ≤ pl.getD pops 0) = false := decide_eq_false h2
                generalize pl.getD pops 0 = q9 at *
                subst hk9
                go_wp2_with fail
                obtain ⟨AD, hs2, hAD⟩ := cut_back (n := ms.length) (c := mc) (g := g) ((1 : Int)) (1) (by omega) (by omega) hgc
                have hs1 := cut_front (n := ms.length) (c := mc) (g := g) (0) (0) (by omega) (by omega) hgc
                have awr : IntKind.i64.wrap 1 = 1 := IntWalk.i64_in _ (by omega)
                have C33 : ∀ j, j < ms.length → w3.drew.cell? ⟨g, j, none⟩ = (ints ms)[j]? := C3.out
                have hgd : g < w3.drew.heap.size := by have := F33.out.size; rw [alloc_size] at this; show g < w3.heap.size; omega
                have q63 : 0 + (ms.length - (1)) ≤ maxLen := by unfold maxLen; omega
                have qby : (0 + (ms.length - (1))) * 8 ≤ 140737488355328 := by omega
                have qlen : (ints (ms.drop (1))).length = (ms.length - (1)) * 1 := by simp [ints]
                have QLEN := Lib.hid qlen
                clear qlen
                have CC := Lib.hid C33; have HPL := Lib.hid hpl; have HGC := Lib.hid hgc; have HMS := Lib.hid hms; have HAD := Lib.hid hAD; have HGD := Lib.hid hgd
                clear C33 hpl hgc hms hAD hgd
                go_region_held3 (fun w' => w'.cell? ⟨g, 0, none⟩ = some (.int .i64 y)) (first | exact cy | exact hc1 | exact hc2) (first
                  | (refine step_append rfl (.const (.slice none 0 0)) (.tmp 117) 22 rfl 0 3 i0 (.int .i64 0) 1 8 Try.underlying22 hi hz0 hz1 hz2 rfl (by decide) (.slice none 0 0) 0 [] rfl (World.ownsRow_nil _ _ _ _) ⟨g, 0, none⟩ 0 mc (ints (ms.take 0)) rfl (by have := HPL.out; simp [ints]; try omega) (pop_news1 C3.out (by have := HPL.out; omega)) (ints_one _) (by have := HPL.out; unfold maxLen; omega) (by have := HPL.out; omega) (Nat.zero_le _) ?_; intro v1 w4 hown1 hg1 hat1; have hc1 := hg1.cell (a := ⟨g, 0, none⟩) cy (by simp [Value.ownBlock]); simp only [Nat.zero_add, List.nil_append] at hown1; have H1 := Lib.hid hown1; have HA1 := Lib.hid hat1; clear hown1 hat1)
                  | (refine step_append rfl (.tmp 118) (.tmp 122) 22 rfl 0 3 i0 (.int .i64 0) 1 8 Try.underlying22 hi hz0 hz1 hz2 rfl (by decide) v1 0 (ints (ms.take 0)) rfl H1.out AD (ms.length - (1)) (mc - (1)) (ints (ms.drop (1))) rfl QLEN.out (pop_news3 CC.out HAD.out hg1 HGD.out) (ints_one _) q63 qby (Nat.zero_le _) ?_; intro v2 w5 hown2 hg2 hat2; have hc2 := pop_cell hg1 hg2 HA1.out HGD.out hc1; have H2 := Lib.hid hown2; have HA2 := Lib.hid hat2; clear hown2 hat2))
                have hpl := HPL.out
                have e5 : 0 + (ms.length - (1)) = ms.length - 1 := by omega
                have r5 : w5.ownsRow 0 3 1 v2 (ms.length - 1) (ints (ms.eraseIdx 0)) := by
                  have h := H2.out
                  rw [e5] at h
                  rw [List.eraseIdx_eq_take_drop_succ]
                  simpa [ints] using h
                have L5 : IsList S w5 lb pl (ms.eraseIdx 0) (pops + 1) := L33.out.move fun b hb hlt => (hg2.block b (by have := hg1.size; have e : w3.drew.heap.size = w3.heap.size := rfl; omega) (fun e => by
                  rcases HA1.out with h | h
                  · rw [h] at e; simp [Value.ownBlock] at e
                  · rw [h] at e; injection e with e; have e2 : w3.drew.heap.size = w3.heap.size := rfl; omega)).trans (hg1.block b hlt (by simp [Value.ownBlock]))
                have len5 : Calls Try.prog 11 #[.pointer (some ⟨lb, 0, none⟩)] w5 fun e w' => e = .returned (.int .i64 (ms.length - 1 : Nat)) ∧ w5 = w' := (len_any L5).mono fun e w' h => ⟨by rw [h.1, HEL.out], h.2⟩
                have pops5 : Calls Try.prog 12 #[.pointer (some ⟨lb, 0, none⟩)] w5 fun e w' => e = .returned (.int .i64 ((pops : Int) + 1)) ∧ w5 = w' := (pops_any L5).mono fun e w' h => ⟨by rw [h.1]; simp, h.2⟩
                obtain ⟨A5, c5, rfl⟩ := row_len r5
                have R5 := Lib.hid r5; have LEN5 := Lib.hid len5; have POPS5 := Lib.hid pops5; have HG1 := Lib.hid hg1; have HG2 := Lib.hid hg2
                clear r5 len5 pops5 hg1 hg2 L5 hc1 hc2 e5 hs1 hs2 awr
                go_wp2_with fail
                refine LEN5.out.mono ?_
                rintro e w' ⟨rfl, rfl⟩
                go_wp2_with fail
                refine POPS5.out.mono ?_
                rintro e w' ⟨rfl, rfl⟩
                go_wp2_with fail
                go_roundw
                case rel =>
                  have g1 := HG1.out
                  exact all_pop (o := .cells #[.bool true, .int .i64 x] 28) rfl h80 hkb HMW.out hpl HS.out BB.out HBW.out L33.out F33.out ⟨g1.os, g1.tape, g1.output, g1.size, fun b hb _ => g1.block b hb (by simp [Value.ownBlock])⟩ HG2.out HA1.out R5.out HA2.out
                case measure => simp [intOf]; omega
            · have hk9 := HAT.out
              unfold place at hk9
              rw [if_neg (fun h => h1 h.1)] at hk9
              have h1' : decide ((pops : Int) < (pl.length : Int)) = false := decide_eq_false (by omega)
              subst hk9
              go_wp2_with fail
              obtain ⟨AD, hs2, hAD⟩ := cut_back (n := ms.length) (c := mc) (g := g) ((1 : Int)) (1) (by omega) (by omega) hgc
              have hs1 := cut_front (n := ms.length) (c := mc) (g := g) (0) (0) (by omega) (by omega) hgc
              have awr : IntKind.i64.wrap 1 = 1 := IntWalk.i64_in _ (by omega)
              have C33 : ∀ j, j < ms.length → w3.drew.cell? ⟨g, j, none⟩ = (ints ms)[j]? := C3.out
              have hgd : g < w3.drew.heap.size := by have := F33.out.size; rw [alloc_size] at this; show g < w3.heap.size; omega
              have q63 : 0 + (ms.length - (1)) ≤ maxLen := by unfold maxLen; omega
              have qby : (0 + (ms.length - (1))) * 8 ≤ 140737488355328 := by omega
              have qlen : (ints (ms.drop (1))).length = (ms.length - (1)) * 1 := by simp [ints]
              have QLEN := Lib.hid qlen
              clear qlen
              have CC := Lib.hid C33; have HPL := Lib.hid hpl; have HGC := Lib.hid hgc; have HMS := Lib.hid hms; have HAD := Lib.hid hAD; have HGD := Lib.hid hgd
              clear C33 hpl hgc hms hAD hgd
              go_region_held3 (fun w' => w'.cell? ⟨g, 0, none⟩ = some (.int .i64 y)) (first | exact cy | exact hc1 | exact hc2) (first
                | (refine step_append rfl (.const (.slice none 0 0)) (.tmp 117) 22 rfl 0 3 i0 (.int .i64 0) 1 8 Try.underlying22 hi hz0 hz1 hz2 rfl (by decide) (.slice none 0 0) 0 [] rfl (World.ownsRow_nil _ _ _ _) ⟨g, 0, none⟩ 0 mc (ints (ms.take 0)) rfl (by have := HPL.out; simp [ints]; try omega) (pop_news1 C3.out (by have := HPL.out; omega)) (ints_one _) (by have := HPL.out; unfold maxLen; omega) (by have := HPL.out; omega) (Nat.zero_le _) ?_; intro v1 w4 hown1 hg1 hat1; have hc1 := hg1.cell (a := ⟨g, 0, none⟩) cy (by simp [Value.ownBlock]); simp only [Nat.zero_add, List.nil_append] at hown1; have H1 := Lib.hid hown1; have HA1 := Lib.hid hat1; clear hown1 hat1)
                | (refine step_append rfl (.tmp 118) (.tmp 122) 22 rfl 0 3 i0 (.int .i64 0) 1 8 Try.underlying22 hi hz0 hz1 hz2 rfl (by decide) v1 0 (ints (ms.take 0)) rfl H1.out AD (ms.length - (1)) (mc - (1)) (ints (ms.drop (1))) rfl QLEN.out (pop_news3 CC.out HAD.out hg1 HGD.out) (ints_one _) q63 qby (Nat.zero_le _) ?_; intro v2 w5 hown2 hg2 hat2; have hc2 := pop_cell hg1 hg2 HA1.out HGD.out hc1; have H2 := Lib.hid hown2; have HA2 := Lib.hid hat2; clear hown2 hat2))
              have hpl := HPL.out
              have e5 : 0 + (ms.length - (1)) = ms.length - 1 := by omega
              have r5 : w5.ownsRow 0 3 1 v2 (ms.length - 1) (ints (ms.eraseIdx 0)) := by
                have h := H2.out
                rw [e5] at h
                rw [List.eraseIdx_eq_take_drop_succ]
                simpa [ints] using h
              have L5 : IsList S w5 lb pl (ms.eraseIdx 0) (pops + 1) := L33.out.move fun b hb hlt => (hg2.block b (by have := hg1.size; have e : w3.drew.heap.size = w3.heap.size := rfl; omega) (fun e => by
                rcases HA1.out with h | h
                · rw [h] at e; simp [Value.ownBlock] at e
                · rw [h] at e; injection e with e; have e2 : w3.drew.heap.size = w3.heap.size := rfl; omega)).trans (hg1.block b hlt (by simp [Value.ownBlock]))
              have len5 : Calls Try.prog 11 #[.pointer (some ⟨lb, 0, none⟩)] w5 fun e w' => e = .returned (.int .i64 (ms.length - 1 : Nat)) ∧ w5 = w' := (len_any L5).mono fun e w' h => ⟨by rw [h.1, HEL.out], h.2⟩
              have pops5 : Calls Try.prog 12 #[.pointer (some ⟨lb, 0, none⟩)] w5 fun e w' => e = .returned (.int .i64 ((pops : Int) + 1)) ∧ w5 = w' := (pops_any L5).mono fun e w' h => ⟨by rw [h.1]; simp, h.2⟩
              obtain ⟨A5, c5, rfl⟩ := row_len r5
              have R5 := Lib.hid r5; have LEN5 := Lib.hid len5; have POPS5 := Lib.hid pops5; have HG1 := Lib.hid hg1; have HG2 := Lib.hid hg2
              clear r5 len5 pops5 hg1 hg2 L5 hc1 hc2 e5 hs1 hs2 awr
              go_wp2_with fail
              refine LEN5.out.mono ?_
              rintro e w' ⟨rfl, rfl⟩
              go_wp2_with fail
              refine POPS5.out.mono ?_
              rintro e w' ⟨rfl, rfl⟩
              go_wp2_with fail
              go_roundw
              case rel =>
                have g1 := HG1.out
                exact all_pop (o := .cells #[.bool true, .int .i64 x] 28) rfl h80 hkb HMW.out hpl HS.out BB.out HBW.out L33.out F33.out ⟨g1.os, g1.tape, g1.output, g1.size, fun b hb _ => g1.block b hb (by simp [Value.ownBlock])⟩ HG2.out HA1.out R5.out HA2.out
              case measure => simp [intOf]; omega
          · obtain rfl : ms = [] := List.eq_nil_of_length_eq_zero (by omega)
            go_wp2_with fail
            refine (pop_empty LLW.out).mono ?_
            rintro e w' ⟨rfl, rfl⟩
            go_wp2_with fail
            refine (len_any LLW.out).mono ?_
            rintro e w' ⟨rfl, rfl⟩
            go_wp2_with fail
            refine (pops_any LLW.out).mono ?_
            rintro e w' ⟨rfl, rfl⟩
            go_wp2_with fail
            go_roundw
            case rel => exact all_old (nq := 0) h80 hkb HMW.out R.out LL.out HS.out HM.out BB.out
            case measure => simp [intOf]; omega
      · go_wp2_with fail
        refine (len_any LL.out).mono ?_
        rintro e w' ⟨rfl, rfl⟩
        go_wp2_with fail
        go_ret
        exact ⟨rfl, BB.out⟩
    · go_wp2_with fail
      refine (len_any LL.out).mono ?_
      rintro e w' ⟨rfl, rfl⟩
      go_wp2_with fail
      go_ret
      exact ⟨rfl, BB.out⟩
set_option maxRecDepth 100000 in
set_option maxHeartbeats 2000000 in
theorem workAll_g (pA : Option Addr) (pn pc : Nat) (picks : List Int) (A : Option Addr) (n c : Nat) (l : List (Bool × Int)) (w : World) (hp : Reads w (.slice pA pn pc) picks) (h : ReadsOps w (.slice A n c) l) (hpn : 60 < pn) :
    Calls Try.prog 3 #[.slice pA pn pc, .slice A n c] w fun e w' => e = .returned (.bool true) ∧ Below w.heap.size w w' := by
  obtain ⟨pA', pc', pv, ppc, ppm, _, ppA⟩ := id hp
  injection pv with p1 p2 p3
  subst p1 p3
  obtain ⟨pb, poff, rfl, _⟩ := ppA (by omega)
  clear ppA
  obtain ⟨pl, hpl⟩ : ∃ pl, pl = picks.take 60 := ⟨_, rfl⟩
  have hpr : Reads w (.slice (some ⟨pb, poff, none⟩) 60 pc) pl := by rw [hpl]; exact hp.take 60 (by omega)
  have hplen : pl.length ≤ 60 := by rw [hpl, List.length_take]; omega
  have hpc60 : 60 ≤ pc := by omega
  unfold maxLen at ppm
  have hpl60 : pl.length = 60 := by rw [hpl, List.length_take]; omega
  have HPL60 := Lib.hid hpl60
  clear hpl p2 hpl60
  obtain ⟨A', c', hv, hc, hcap, hwf, hA⟩ := h
  injection hv with h1 h2 h3
  subst h1 h2 h3
  have HA := Lib.hid hA; have HW := Lib.hid hwf; have RP := Lib.hid hpr
  clear hA hwf hp hpr
  unfold maxLen at hcap
  go_enter Try.func3, Try.ntmps3
  go_wp2_with fail
  refine (begun_true _).mono ?_
  rintro e w1 ⟨rfl, B⟩
  have B1 := Lib.hid B
  clear B
  go_wp2_with fail
  have RP1 := Lib.hid (RP.out.below B1.out)
  refine (new_any RP1.out (by omega)).mono ?_
  rintro e w2 ⟨lb, rfl, L, B⟩
  have I0 := Lib.hid (all_start pl B1.out B L)
  clear L B
  go_wp2_with fail
  go_loopw [7, 8, 9] (fun m p i wr => AllInv w lb pl m p i wr) (fun _ _ i _ => 80 - (intOf i).toNat)
  case atStart => exact I0.out
  case round =>
    obtain ⟨k, pops, ms, S, hk, rfl, rfl, hkb, hmw, r, L, hS, hm, B⟩ := id hrel
    obtain ⟨mA, mc, rfl⟩ := row_len r
    have R := Lib.hid r; have LL := Lib.hid L; have HS := Lib.hid hS; have HM := Lib.hid hm; have BB := Lib.hid B; have HMW := Lib.hid hmw; have HR := Lib.hid hrel
    clear r L hS hm B hmw hrel
    by_cases hlt : k < l.length
    · by_cases h80 : k < 80
      · obtain ⟨b, off, rfl, hcell⟩ := HA.out (by omega)
        obtain ⟨cb, cx⟩ := hcell k hlt
        have hx := HW.out (l.getD k (false, 0)) (by rw [List.getD_eq_getElem?_getD, List.getElem?_eq_getElem hlt]; exact List.getElem_mem hlt)
        have hbl := World.block_lt_of_cell? w _ cb
        simp at hbl
        have db := (BB.out.cell (p := ⟨b, off + k * 2, none⟩) hbl).trans cb
        have dx := (BB.out.cell (p := ⟨b, off + k * 2 + 1, none⟩) hbl).trans cx
        clear cb cx hcell
        generalize (l.getD k (false, 0)).2 = x at *
        generalize (l.getD k (false, 0)).1 = pop at *
        cases pop with
        | false =>
          go_wp2_with fail
          obtain ⟨wo, hwo⟩ : ∃ wo : World, wo = wr := ⟨_, rfl⟩
          subst hwo
          go_loopw [11, 12] (fun t q wi => ∃ (j nq : Nat), j ≤ ms.length ∧ q = .int .i64 j ∧ t = .bool (decide (x ∈ ms.take j)) ∧ wi = (wo.alloc (.cells #[.bool false, .int .i64 x] 28)).drewN nq) (fun _ q _ => ms.length - (intOf q).toNat)
          case atStart => exact ⟨0, 0, Nat.zero_le _, rfl, by simp, rfl⟩
          case round =>
            obtain ⟨j, nq, hj, rfl, rfl, rfl⟩ := hrel
            by_cases hjl : j < ms.length
            · obtain ⟨g, cap, he, hg0, hgl, hgc, hgm, gcell, gfree⟩ := row_form R.out (by omega)
              injection he with he1 he2 he3
              subst he1 he3
              have cm := gcell j hjl
              have ecm : (ints ms)[j]? = some (.int .i64 (ms.getD j 0)) := by simp [ints, List.getD_eq_getElem?_getD, List.getElem?_eq_getElem hjl]
              rw [ecm] at cm
              have et := in_take ms x j hjl
              have cm2 : (wo.alloc (.cells #[.bool false, .int .i64 x] 28)).cell? ⟨g, j, none⟩ = some (.int .i64 (ms.getD j 0)) := (World.cell?_of_block (alloc_old _ _ _ hgl)).trans cm
              have ET := Lib.hid et
              clear et gcell gfree ecm he2
              generalize ms.getD j 0 = y at *
              cases ht : decide (x ∈ ms.take j) with
              | true =>
                have HT := Lib.hid ht
                clear ht
                go_wp2_with fail
                go_quiet (fail)
                go_wp2_with fail
                go_roundw
                case rel => exact ⟨j + 1, _, hjl, by simp, by rw [ET.out, HT.out]; rfl, rfl⟩
                case measure => simp [intOf]; omega
              | false =>
                have HT := Lib.hid ht
                clear ht
                go_wp2_with fail
                go_quiet (fail)
                go_wp2_with fail
                go_roundw
                case rel => exact ⟨j + 1, _, hjl, by simp, by rw [ET.out, HT.out]; simp, rfl⟩
                case measure => simp [intOf]; omega
            · obtain rfl : j = ms.length := by omega
              rw [List.take_length]
              have hW : ((wo.alloc (.cells #[.bool false, .int .i64 x] 28)).drewN nq).heap = (wo.alloc (.cells #[.bool false, .int .i64 x] 28)).heap := rfl
              have LW : IsList S ((wo.alloc (.cells #[.bool false, .int .i64 x] 28)).drewN nq) lb pl ms pops := LL.out.move fun b _ hb => alloc_old _ _ _ hb
              have P1 := Lib.hid (fun hin => push_old LW x hx hin)
              have P2 := Lib.hid (fun hin => push_new LW x hx hin (by omega))
              have BW : Below w.heap.size w ((wo.alloc (.cells #[.bool false, .int .i64 x] 28)).drewN nq) := pw_drewN (BB.out.alloc BB.out.size _) nq
              have HBW := Lib.hid BW; have HHW := Lib.hid hW
              clear LW BW hW
              cases ht : decide (x ∈ ms) with
              | true =>
                have HI := Lib.hid (of_decide_eq_true ht)
                clear ht
                go_wp2_with fail
                refine (P1.out HI.out).mono ?_
                rintro e w' ⟨rfl, rfl⟩
                go_wp2_with fail
                go_roundw
                case rel => exact all_old h80 hkb HMW.out R.out LL.out HS.out HM.out BB.out
                case measure => simp [intOf]; omega
              | false =>
                have HI := Lib.hid (of_decide_eq_false ht)
                clear ht
                go_wp2_with fail
                refine (P2.out HI.out).mono ?_
                rintro e w3 ⟨rfl, L3, F3⟩
                have co : w3.cell? ⟨wo.heap.size, 1, none⟩ = some (.int .i64 x) := by
                  have e1 : w3.heap[wo.heap.size]? = some (.cells #[.bool false, .int .i64 x] 28 (0, 0)) :=
                    (F3.block _ (by rw [HHW.out, alloc_size]; omega) (fun hb => by have := (HS.out _ hb).2; omega)).trans (alloc_at wo _ _ rfl)
                  exact blk_cells e1 1
                have R3 := Lib.hid (row_move R.out fun b hb => (F3.block b (by rw [HHW.out, alloc_size]; have := row_lt R.out hb; omega) (HM.out b hb).2).trans (alloc_old wo _ _ (row_lt R.out hb)))
                have LL3 := Lib.hid L3; have FF3 := Lib.hid F3
                obtain ⟨i0, hi, hz0, hz1, hz2⟩ := info_parts info3
                clear L3 F3
                go_wp2_with (first
                  | (at_builtin; refine wpList_append_own_at _ rfl _ _ 22 rfl 0 3 i0 (.int .i64 0) 1 8 Try.underlying22 hi hz0 hz1 hz2 rfl (by decide) (.slice mA ms.length mc) ms.length (ints ms) rfl (R3.out.alloc _) ⟨w3.heap.size, 0, none⟩ 1 1 [.int .i64 x] rfl rfl (one_cell _ _ _) (one_int _ _) (by unfold maxLen; omega) (by omega) (Nat.zero_le _) ?_; intro v' w4 hown hgrow hnn hat; clear hnn; have HO := Lib.hid hown; have HG := Lib.hid hgrow; have HAT := Lib.hid hat; clear hown hgrow hat)
                  | go_in)
                go_roundw
                case rel => exact all_new HHW.out h80 hkb HMW.out hx R.out HS.out HM.out BB.out HBW.out LL3.out FF3.out HO.out HG.out HAT.out
                case measure => simp [intOf]; omega
        | true =>
          have hW : (wr.alloc (.cells #[.bool true, .int .i64 x] 28)).heap = (wr.alloc (.cells #[.bool true, .int .i64 x] 28)).heap := rfl
          have LW : IsList S (wr.alloc (.cells #[.bool true, .int .i64 x] 28)) lb pl ms pops := LL.out.move fun b _ hb => alloc_old _ _ _ hb
          have HBW := Lib.hid (BB.out.alloc BB.out.size (.cells #[.bool true, .int .i64 x] 28))
          have LLW := Lib.hid LW
          clear LW hW
          by_cases hms : 0 < ms.length
          · have hpl := place_lt pl pops ms.length hms
            have pop1 := pop_any LLW.out hms (by omega) (by omega) (by omega) HMW.out
            obtain ⟨g, cap, he, hg0, hgl, hgc, hgm, gcell, gfree⟩ := row_form R.out hms
            injection he with he1 he2 he3
            subst he1 he3
            have el := List.length_eraseIdx_of_lt hpl
            generalize hat : place pl pops ms.length = at_ at *
            have hy : (ints ms)[at_]? = some (.int .i64 (ms.getD at_ 0)) := by simp [ints, List.getD_eq_getElem?_getD, List.getElem?_eq_getElem hpl]
            have cm := gcell at_ hpl
            rw [hy] at cm
            have PP := Lib.hid pop1; have HAT := Lib.hid hat; have GC := Lib.hid gcell; have HEL := Lib.hid el
            clear pop1 hat gcell gfree he2 hy el
            generalize hyy : ms.getD at_ 0 = y at *
            clear hyy
            have hgS : ¬ S g := (HM.out g rfl).2
            go_wp2_with fail
            refine PP.out.mono ?_
            rintro e w3 ⟨rfl, L3, F3⟩
            have cells3 : ∀ j, j < ms.length → w3.cell? ⟨g, j, none⟩ = (ints ms)[j]? := fun j hj =>
              (World.cell?_of_block ((F3.block g (by rw [alloc_size]; omega) hgS).trans (alloc_old wr _ _ hgl))).trans (GC.out j hj)
            have cy : w3.cell? ⟨g, at_, none⟩ = some (.int .i64 y) := (World.cell?_of_block ((F3.block g (by rw [alloc_size]; omega) hgS).trans (alloc_old wr _ _ hgl))).trans cm
            have B3 : Below w.heap.size w w3 := HBW.out.trans (F3.below (S := S) HBW.out.size fun b hb => (HS.out b hb).1)
            have RP3 := (RP.out.below B3)
            obtain ⟨A9, c9, hv9, hl9, hm9, hw9, hpc9⟩ := RP3
            injection hv9 with e1 e2 e3
            have C3 := Lib.hid cells3; have L33 := Lib.hid L3; have F33 := Lib.hid F3; have HPC := Lib.hid hpc9; have HE1 := Lib.hid e1
            obtain ⟨i0, hi, hz0, hz1, hz2⟩ := info_parts info3
            clear cells3 B3 L3 F3 hpc9 e1 e2 e3 hm9 hw9 hl9 PP
            have hm0 : ((ms.length : Int) == 0) = false := by rw [beq_eq_false_iff_ne]; omega
            have HN : Calls Try.prog 11 #[.pointer (some ⟨lb, 0, none⟩)] w3 (fun e w' => e = .returned (.int .i64 ((ms.length : Int) - 1)) ∧ w3 = w') :=
              (len_any L33.out).mono fun e w' h => ⟨by rw [h.1, HEL.out]; congr 2; omega, h.2⟩
            have HNN := Lib.hid HN
            clear HN
            by_cases h1 : pops < pl.length
            · obtain ⟨pb9, po9, hA9, pcell9⟩ := HPC.out (by omega)
              have hAA := HE1.out
              rw [hA9] at hAA
              injection hAA with hAA
              injection hAA with hA1 hA2
              subst hA1 hA2
              have cp := pcell9 pops h1
              clear pcell9
              by_cases h2 : 0 ≤ pl.getD pops 0
              · have hk9 := HAT.out
                unfold place at hk9
                rw [if_pos ⟨h1, h2⟩] at hk9
                have hk0 := Int.emod_nonneg (pl.getD pops 0) (show (ms.length : Int) ≠ 0 by omega)
                have hk1 := Int.emod_lt_of_pos (pl.getD pops 0) (show (0 : Int) < ms.length by omega)
                have hkat : pl.getD pops 0 % (ms.length : Int) = (at_ : Int) := by omega
                generalize pl.getD pops 0 = q9 at *
                clear hk9
                go_wp2_with fail
                simp only [hkat]
                have AT := Lib.hid hkat
                clear hkat
                obtain ⟨AD, hs2, hAD⟩ := cut_back (n := ms.length) (c := mc) (g := g) ((at_ : Int) + 1) (at_ + 1) (by omega) (by omega) hgc
                have hs1 := cut_front (n := ms.length) (c := mc) (g := g) (at_) (at_) (by omega) (by omega) hgc
                have awr : IntKind.i64.wrap ((at_ : Int) + 1) = (at_ : Int) + 1 := IntWalk.i64_in _ (by omega)
                have C33 : ∀ j, j < ms.length → w3.drew.cell? ⟨g, j, none⟩ = (ints ms)[j]? := C3.out
                have hgd : g < w3.drew.heap.size := by have := F33.out.size; rw [alloc_size] at this; show g < w3.heap.size; omega
                have q63 : at_ + (ms.length - (at_ + 1)) ≤ maxLen := by unfold maxLen; omega
                have qby : (at_ + (ms.length - (at_ + 1))) * 8 ≤ 140737488355328 := by omega
                have qlen : (ints (ms.drop (at_ + 1))).length = (ms.length - (at_ + 1)) * 1 := by simp [ints]
                have QLEN := Lib.hid qlen
                clear qlen
                have CC := Lib.hid C33; have HPL := Lib.hid hpl; have HGC := Lib.hid hgc; have HMS := Lib.hid hms; have HAD := Lib.hid hAD; have HGD := Lib.hid hgd
                clear C33 hpl hgc hms hAD hgd
                go_region_held3 (fun w' => w'.cell? ⟨g, at_, none⟩ = some (.int .i64 y)) (first | exact cy | exact hc1 | exact hc2) (first
                  | (refine step_append rfl (.const (.slice none 0 0)) (.tmp 117) 22 rfl 0 3 i0 (.int .i64 0) 1 8 Try.underlying22 hi hz0 hz1 hz2 rfl (by decide) (.slice none 0 0) 0 [] rfl (World.ownsRow_nil _ _ _ _) ⟨g, 0, none⟩ at_ mc (ints (ms.take at_)) rfl (by have := HPL.out; simp [ints]; try omega) (pop_news1 C3.out (by have := HPL.out; omega)) (ints_one _) (by have := HPL.out; unfold maxLen; omega) (by have := HPL.out; omega) (Nat.zero_le _) ?_; intro v1 w4 hown1 hg1 hat1; have hc1 := hg1.cell (a := ⟨g, at_, none⟩) cy (by simp [Value.ownBlock]); simp only [Nat.zero_add, List.nil_append] at hown1; have H1 := Lib.hid hown1; have HA1 := Lib.hid hat1; clear hown1 hat1)
                  | (refine step_append rfl (.tmp 118) (.tmp 122) 22 rfl 0 3 i0 (.int .i64 0) 1 8 Try.underlying22 hi hz0 hz1 hz2 rfl (by decide) v1 at_ (ints (ms.take at_)) rfl H1.out AD (ms.length - (at_ + 1)) (mc - (at_ + 1)) (ints (ms.drop (at_ + 1))) rfl QLEN.out (pop_news3 CC.out HAD.out hg1 HGD.out) (ints_one _) q63 qby (Nat.zero_le _) ?_; intro v2 w5 hown2 hg2 hat2; have hc2 := pop_cell hg1 hg2 HA1.out HGD.out hc1; have H2 := Lib.hid hown2; have HA2 := Lib.hid hat2; clear hown2 hat2))
                have hpl := HPL.out
                have e5 : at_ + (ms.length - (at_ + 1)) = ms.length - 1 := by omega
                have r5 : w5.ownsRow 0 3 1 v2 (ms.length - 1) (ints (ms.eraseIdx at_)) := by
                  have h := H2.out
                  rw [e5] at h
                  rw [List.eraseIdx_eq_take_drop_succ]
                  simpa [ints] using h
                have L5 : IsList S w5 lb pl (ms.eraseIdx at_) (pops + 1) := L33.out.move fun b hb hlt => (hg2.block b (by have := hg1.size; have e : w3.drew.heap.size = w3.heap.size := rfl; omega) (fun e => by
                  rcases HA1.out with h | h
                  · rw [h] at e; simp [Value.ownBlock] at e
                  · rw [h] at e; injection e with e; have e2 : w3.drew.heap.size = w3.heap.size := rfl; omega)).trans (hg1.block b hlt (by simp [Value.ownBlock]))
                have len5 : Calls Try.prog 11 #[.pointer (some ⟨lb, 0, none⟩)] w5 fun e w' => e = .returned (.int .i64 (ms.length - 1 : Nat)) ∧ w5 = w' := (len_any L5).mono fun e w' h => ⟨by rw [h.1, HEL.out], h.2⟩
                have pops5 : Calls Try.prog 12 #[.pointer (some ⟨lb, 0, none⟩)] w5 fun e w' => e = .returned (.int .i64 ((pops : Int) + 1)) ∧ w5 = w' := (pops_any L5).mono fun e w' h => ⟨by rw [h.1]; simp, h.2⟩
                obtain ⟨A5, c5, rfl⟩ := row_len r5
                have R5 := Lib.hid r5; have LEN5 := Lib.hid len5; have POPS5 := Lib.hid pops5; have HG1 := Lib.hid hg1; have HG2 := Lib.hid hg2
                clear r5 len5 pops5 hg1 hg2 L5 hc1 hc2 e5 hs1 hs2 awr
                go_wp2_with fail
                refine LEN5.out.mono ?_
                rintro e w' ⟨rfl, rfl⟩
                go_wp2_with fail
                refine POPS5.out.mono ?_
                rintro e w' ⟨rfl, rfl⟩
                go_wp2_with fail
                go_roundw
                case rel =>
                  have g1 := HG1.out
                  exact all_pop (o := .cells #[.bool true, .int .i64 x] 28) rfl h80 hkb HMW.out hpl HS.out BB.out HBW.out L33.out F33.out ⟨g1.os, g1.tape, g1.output, g1.size, fun b hb _ => g1.block b hb (by simp [Value.ownBlock])⟩ HG2.out HA1.out R5.out HA2.out
                case measure => simp [intOf]; omega
              · have hk9 := HAT.out
                unfold place at hk9
                rw [if_neg (fun h => h2 h.2)] at hk9
                have h2' : decide (0 ≤ pl.getD pops 0) = false := decide_eq_false h2
                generalize pl.getD pops 0 = q9 at *
                subst hk9
                go_wp2_with fail
                obtain ⟨AD, hs2, hAD⟩ := cut_back (n := ms.length) (c := mc) (g := g) ((1 : Int)) (1) (by omega) (by omega) hgc
                have hs1 := cut_front (n := ms.length) (c := mc) (g := g) (0) (0) (by omega) (by omega) hgc
                have awr : IntKind.i64.wrap 1 = 1 := IntWalk.i64_in _ (by omega)
                have C33 : ∀ j, j < ms.length → w3.drew.cell? ⟨g, j, none⟩ = (ints ms)[j]? := C3.out
                have hgd : g < w3.drew.heap.size := by have := F33.out.size; rw [alloc_size] at this; show g < w3.heap.size; omega
                have q63 : 0 + (ms.length - (1)) ≤ maxLen := by unfold maxLen; omega
                have qby : (0 + (ms.length - (1))) * 8 ≤ 140737488355328 := by omega
                have qlen : (ints (ms.drop (1))).length = (ms.length - (1)) * 1 := by simp [ints]
                have QLEN := Lib.hid qlen
                clear qlen
                have CC := Lib.hid C33; have HPL := Lib.hid hpl; have HGC := Lib.hid hgc; have HMS := Lib.hid hms; have HAD := Lib.hid hAD; have HGD := Lib.hid hgd
                clear C33 hpl hgc hms hAD hgd
                go_region_held3 (fun w' => w'.cell? ⟨g, 0, none⟩ = some (.int .i64 y)) (first | exact cy | exact hc1 | exact hc2) (first
                  | (refine step_append rfl (.const (.slice none 0 0)) (.tmp 117) 22 rfl 0 3 i0 (.int .i64 0) 1 8 Try.underlying22 hi hz0 hz1 hz2 rfl (by decide) (.slice none 0 0) 0 [] rfl (World.ownsRow_nil _ _ _ _) ⟨g, 0, none⟩ 0 mc (ints (ms.take 0)) rfl (by have := HPL.out; simp [ints]; try omega) (pop_news1 C3.out (by have := HPL.out; omega)) (ints_one _) (by have := HPL.out; unfold maxLen; omega) (by have := HPL.out; omega) (Nat.zero_le _) ?_; intro v1 w4 hown1 hg1 hat1; have hc1 := hg1.cell (a := ⟨g, 0, none⟩) cy (by simp [Value.ownBlock]); simp only [Nat.zero_add, List.nil_append] at hown1; have H1 := Lib.hid hown1; have HA1 := Lib.hid hat1; clear hown1 hat1)
                  | (refine step_append rfl (.tmp 118) (.tmp 122) 22 rfl 0 3 i0 (.int .i64 0) 1 8 Try.underlying22 hi hz0 hz1 hz2 rfl (by decide) v1 0 (ints (ms.take 0)) rfl H1.out AD (ms.length - (1)) (mc - (1)) (ints (ms.drop (1))) rfl QLEN.out (pop_news3 CC.out HAD.out hg1 HGD.out) (ints_one _) q63 qby (Nat.zero_le _) ?_; intro v2 w5 hown2 hg2 hat2; have hc2 := pop_cell hg1 hg2 HA1.out HGD.out hc1; have H2 := Lib.hid hown2; have HA2 := Lib.hid hat2; clear hown2 hat2))
                have hpl := HPL.out
                have e5 : 0 + (ms.length - (1)) = ms.length - 1 := by omega
                have r5 : w5.ownsRow 0 3 1 v2 (ms.length - 1) (ints (ms.eraseIdx 0)) := by
                  have h := H2.out
                  rw [e5] at h
                  rw [List.eraseIdx_eq_take_drop_succ]
                  simpa [ints] using h
                have L5 : IsList S w5 lb pl (ms.eraseIdx 0) (pops + 1) := L33.out.move fun b hb hlt => (hg2.block b (by have := hg1.size; have e : w3.drew.heap.size = w3.heap.size := rfl; omega) (fun e => by
                  rcases HA1.out with h | h
                  · rw [h] at e; simp [Value.ownBlock] at e
                  · rw [h] at e; injection e with e; have e2 : w3.drew.heap.size = w3.heap.size := rfl; omega)).trans (hg1.block b hlt (by simp [Value.ownBlock]))
                have len5 : Calls Try.prog 11 #[.pointer (some ⟨lb, 0, none⟩)] w5 fun e w' => e = .returned (.int .i64 (ms.length - 1 : Nat)) ∧ w5 = w' := (len_any L5).mono fun e w' h => ⟨by rw [h.1, HEL.out], h.2⟩
                have pops5 : Calls Try.prog 12 #[.pointer (some ⟨lb, 0, none⟩)] w5 fun e w' => e = .returned (.int .i64 ((pops : Int) + 1)) ∧ w5 = w' := (pops_any L5).mono fun e w' h => ⟨by rw [h.1]; simp, h.2⟩
                obtain ⟨A5, c5, rfl⟩ := row_len r5
                have R5 := Lib.hid r5; have LEN5 := Lib.hid len5; have POPS5 := Lib.hid pops5; have HG1 := Lib.hid hg1; have HG2 := Lib.hid hg2
                clear r5 len5 pops5 hg1 hg2 L5 hc1 hc2 e5 hs1 hs2 awr
                go_wp2_with fail
                refine LEN5.out.mono ?_
                rintro e w' ⟨rfl, rfl⟩
                go_wp2_with fail
                refine POPS5.out.mono ?_
                rintro e w' ⟨rfl, rfl⟩
                go_wp2_with fail
                go_roundw
                case rel =>
                  have g1 := HG1.out
                  exact all_pop (o := .cells #[.bool true, .int .i64 x] 28) rfl h80 hkb HMW.out hpl HS.out BB.out HBW.out L33.out F33.out ⟨g1.os, g1.tape, g1.output, g1.size, fun b hb _ => g1.block b hb (by simp [Value.ownBlock])⟩ HG2.out HA1.out R5.out HA2.out
                case measure => simp [intOf]; omega
            · have hk9 := HAT.out
              unfold place at hk9
              rw [if_neg (fun h => h1 h.1)] at hk9
              have h1' : decide ((pops : Int) < 60) = false := decide_eq_false (by have := HPL60.out; omega)
              subst hk9
              go_wp2_with fail
              obtain ⟨AD, hs2, hAD⟩ := cut_back (n := ms.length) (c := mc) (g := g) ((1 : Int)) (1) (by omega) (by omega) hgc
              have hs1 := cut_front (n := ms.length) (c := mc) (g := g) (0) (0) (by omega) (by omega) hgc
              have awr : IntKind.i64.wrap 1 = 1 := IntWalk.i64_in _ (by omega)
              have C33 : ∀ j, j < ms.length → w3.drew.cell? ⟨g, j, none⟩ = (ints ms)[j]? := C3.out
              have hgd : g < w3.drew.heap.size := by have := F33.out.size; rw [alloc_size] at this; show g < w3.heap.size; omega
              have q63 : 0 + (ms.length - (1)) ≤ maxLen := by unfold maxLen; omega
              have qby : (0 + (ms.length - (1))) * 8 ≤ 140737488355328 := by omega
              have qlen : (ints (ms.drop (1))).length = (ms.length - (1)) * 1 := by simp [ints]
              have QLEN := Lib.hid qlen
              clear qlen
              have CC := Lib.hid C33; have HPL := Lib.hid hpl; have HGC := Lib.hid hgc; have HMS := Lib.hid hms; have HAD := Lib.hid hAD; have HGD := Lib.hid hgd
              clear C33 hpl hgc hms hAD hgd
              go_region_held3 (fun w' => w'.cell? ⟨g, 0, none⟩ = some (.int .i64 y)) (first | exact cy | exact hc1 | exact hc2) (first
                | (refine step_append rfl (.const (.slice none 0 0)) (.tmp 117) 22 rfl 0 3 i0 (.int .i64 0) 1 8 Try.underlying22 hi hz0 hz1 hz2 rfl (by decide) (.slice none 0 0) 0 [] rfl (World.ownsRow_nil _ _ _ _) ⟨g, 0, none⟩ 0 mc (ints (ms.take 0)) rfl (by have := HPL.out; simp [ints]; try omega) (pop_news1 C3.out (by have := HPL.out; omega)) (ints_one _) (by have := HPL.out; unfold maxLen; omega) (by have := HPL.out; omega) (Nat.zero_le _) ?_; intro v1 w4 hown1 hg1 hat1; have hc1 := hg1.cell (a := ⟨g, 0, none⟩) cy (by simp [Value.ownBlock]); simp only [Nat.zero_add, List.nil_append] at hown1; have H1 := Lib.hid hown1; have HA1 := Lib.hid hat1; clear hown1 hat1)
                | (refine step_append rfl (.tmp 118) (.tmp 122) 22 rfl 0 3 i0 (.int .i64 0) 1 8 Try.underlying22 hi hz0 hz1 hz2 rfl (by decide) v1 0 (ints (ms.take 0)) rfl H1.out AD (ms.length - (1)) (mc - (1)) (ints (ms.drop (1))) rfl QLEN.out (pop_news3 CC.out HAD.out hg1 HGD.out) (ints_one _) q63 qby (Nat.zero_le _) ?_; intro v2 w5 hown2 hg2 hat2; have hc2 := pop_cell hg1 hg2 HA1.out HGD.out hc1; have H2 := Lib.hid hown2; have HA2 := Lib.hid hat2; clear hown2 hat2))
              have hpl := HPL.out
              have e5 : 0 + (ms.length - (1)) = ms.length - 1 := by omega
              have r5 : w5.ownsRow 0 3 1 v2 (ms.length - 1) (ints (ms.eraseIdx 0)) := by
                have h := H2.out
                rw [e5] at h
                rw [List.eraseIdx_eq_take_drop_succ]
                simpa [ints] using h
              have L5 : IsList S w5 lb pl (ms.eraseIdx 0) (pops + 1) := L33.out.move fun b hb hlt => (hg2.block b (by have := hg1.size; have e : w3.drew.heap.size = w3.heap.size := rfl; omega) (fun e => by
                rcases HA1.out with h | h
                · rw [h] at e; simp [Value.ownBlock] at e
                · rw [h] at e; injection e with e; have e2 : w3.drew.heap.size = w3.heap.size := rfl; omega)).trans (hg1.block b hlt (by simp [Value.ownBlock]))
              have len5 : Calls Try.prog 11 #[.pointer (some ⟨lb, 0, none⟩)] w5 fun e w' => e = .returned (.int .i64 (ms.length - 1 : Nat)) ∧ w5 = w' := (len_any L5).mono fun e w' h => ⟨by rw [h.1, HEL.out], h.2⟩
              have pops5 : Calls Try.prog 12 #[.pointer (some ⟨lb, 0, none⟩)] w5 fun e w' => e = .returned (.int .i64 ((pops : Int) + 1)) ∧ w5 = w' := (pops_any L5).mono fun e w' h => ⟨by rw [h.1]; simp, h.2⟩
              obtain ⟨A5, c5, rfl⟩ := row_len r5
              have R5 := Lib.hid r5; have LEN5 := Lib.hid len5; have POPS5 := Lib.hid pops5; have HG1 := Lib.hid hg1; have HG2 := Lib.hid hg2
              clear r5 len5 pops5 hg1 hg2 L5 hc1 hc2 e5 hs1 hs2 awr
              go_wp2_with fail
              refine LEN5.out.mono ?_
              rintro e w' ⟨rfl, rfl⟩
              go_wp2_with fail
              refine POPS5.out.mono ?_
              rintro e w' ⟨rfl, rfl⟩
              go_wp2_with fail
              go_roundw
              case rel =>
                have g1 := HG1.out
                exact all_pop (o := .cells #[.bool true, .int .i64 x] 28) rfl h80 hkb HMW.out hpl HS.out BB.out HBW.out L33.out F33.out ⟨g1.os, g1.tape, g1.output, g1.size, fun b hb _ => g1.block b hb (by simp [Value.ownBlock])⟩ HG2.out HA1.out R5.out HA2.out
              case measure => simp [intOf]; omega
          · obtain rfl : ms = [] := List.eq_nil_of_length_eq_zero (by omega)
            go_wp2_with fail
            refine (pop_empty LLW.out).mono ?_
            rintro e w' ⟨rfl, rfl⟩
            go_wp2_with fail
            refine (len_any LLW.out).mono ?_
            rintro e w' ⟨rfl, rfl⟩
            go_wp2_with fail
            refine (pops_any LLW.out).mono ?_
            rintro e w' ⟨rfl, rfl⟩
            go_wp2_with fail
            go_roundw
            case rel => exact all_old (nq := 0) h80 hkb HMW.out R.out LL.out HS.out HM.out BB.out
            case measure => simp [intOf]; omega
      · go_wp2_with fail
        refine (len_any LL.out).mono ?_
        rintro e w' ⟨rfl, rfl⟩
        go_wp2_with fail
        go_ret
        exact ⟨rfl, BB.out⟩
    · go_wp2_with fail
      refine (len_any LL.out).mono ?_
      rintro e w' ⟨rfl, rfl⟩
      go_wp2_with fail
      go_ret
      exact ⟨rfl, BB.out⟩
theorem workAll_any (pA : Option Addr) (pn pc : Nat) (picks : List Int) (A : Option Addr) (n c : Nat) (l : List (Bool × Int)) (w : World) (hp : Reads w (.slice pA pn pc) picks) (h : ReadsOps w (.slice A n c) l) :
    Calls Try.prog 3 #[.slice pA pn pc, .slice A n c] w fun e w' => e = .returned (.bool true) ∧ Below w.heap.size w w' := by
  by_cases hpn : pn ≤ 60
  · exact workAll_s pA pn pc picks A n c l w hp h hpn
  · exact workAll_g pA pn pc picks A n c l w hp h (by omega)

end Go.Proofs.Ytkgjfkeaiiigfaa
