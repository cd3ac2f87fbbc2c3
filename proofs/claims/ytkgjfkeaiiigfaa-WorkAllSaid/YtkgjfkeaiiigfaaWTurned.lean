/- WorkTurned: the walk: whatever the picks, what goes is what came. -/
import Derived.Test.YtkgjfkeaiiigfaaWFirst
import Derived.Deep.RegionHeld3
namespace Go.Proofs.Ytkgjfkeaiiigfaa
open Go.RowKit Go.Maps Go.ChangeMaps Go.MapKept
set_option linter.unusedVariables false

theorem wpList_set_put {ops : Array Oper} {rest : List Oper} {o : Oper} {a : Act} {Q : Exit → Act → World → Prop} (w : World) (hg : o.guard = none) (m x v : Operand)
    (hop : o.op = Op.mapUpdate 34 m x v) (b : Nat) (l : List Int) (n : Int)
    (hm : a.eval m = .map (some b)) (h : IsSet w b l) (hx : a.eval x = .int .i64 n) (hv : a.eval v = .bool true) (hw : (Lit.int .i64 n).wf = true) (hl : l.length < maxLen)
    (hK : ∀ w', IsSet w' b (if n ∈ l then l else l ++ [n]) → w.grownBy w' (some b) → w'.heap.size = w.heap.size → wpList Try.prog ops Q rest (a.put o.dst undef) w') : wpList Try.prog ops Q (o :: rest) a w := by
  refine wpList_plain hg fun K' hK' => ?_
  obtain ⟨w', hrun, r1, r2, r3⟩ := isSet_put h n hw hl
  unfold Oper.wp
  simp [execOp, hop, hm, hx, hv, hrun, Result.andThen]
  exact hK' _ _ (hK w' r1 r2 r3)

def TurnInv (w : World) (lb mb : Nat) (pl ll : List Int) (i : Value) (wr : World) : Prop := ∃ (k : Nat) (S : Nat → Prop), k ≤ ll.length ∧ i = .int .i64 k ∧
  IsList S wr lb pl (firsts (ll.take k)) 0 ∧ IsSet wr mb (firsts (ll.take k)) ∧ (∀ b, S b → w.heap.size ≤ b ∧ b < wr.heap.size) ∧ ¬ S mb ∧ w.heap.size ≤ mb ∧ Below w.heap.size w wr

def BackInv (w : World) (lb mb : Nat) (pl ll : List Int) (i : Value) (wr : World) : Prop := ∃ (q : List Int) (pops : Nat) (S : Nat → Prop), i = .int .i64 q.length ∧ q.length + pops ≤ 60 ∧ (∀ x ∈ q, x ∈ ll) ∧
  IsList S wr lb pl q pops ∧ IsSet wr mb q ∧ (∀ b, S b → w.heap.size ≤ b ∧ b < wr.heap.size) ∧ ¬ S mb ∧ w.heap.size ≤ mb ∧ Below w.heap.size w wr

theorem turn_start {w w1 w2 : World} {lb : Nat} (pl ll : List Int) (B1 : Below w.heap.size w w1) (B2 : Below w1.heap.size w1 w2) (L : IsList (fun k => w1.heap.size ≤ k ∧ k < w2.heap.size) w2 lb pl [] 0) :
    TurnInv w lb w2.heap.size pl ll (.int .i64 0) (w2.alloc (.map #[] 0)) := by
  have z1 := B1.size
  have z2 := B2.size
  refine ⟨0, _, Nat.zero_le _, rfl, L.move fun k _ hk => alloc_old _ _ _ hk, isSet_new w2, fun b hb => ⟨by omega, by rw [alloc_size]; omega⟩, fun h => by omega, by omega, (B1.trans (B2.mono z1)).alloc (by omega) _⟩

theorem turn_next {w wr w1 w2 : World} {lb mb k : Nat} {pl ll : List Int} {S : Nat → Prop} (hk : k < ll.length) (hS : ∀ b, S b → w.heap.size ≤ b ∧ b < wr.heap.size) (hm : ¬ S mb) (hmw : w.heap.size ≤ mb) (hml : mb < wr.heap.size) (B : Below w.heap.size w wr)
    (L : IsList (fun b => S b ∨ (wr.heap.size ≤ b ∧ b < w1.heap.size)) w1 lb pl (firsts (ll.take (k + 1))) 0) (F : Fr S wr w1) (s : IsSet w2 mb (firsts (ll.take (k + 1)))) (G : w1.grownBy w2 (some mb)) (hz : w2.heap.size = w1.heap.size) :
    TurnInv w lb mb pl ll (.int .i64 ((k : Int) + 1)) w2 := by
  have z0 := B.size
  have z1 := F.size
  have hmS : ¬ (S mb ∨ (wr.heap.size ≤ mb ∧ mb < w1.heap.size)) := fun h => h.elim hm (fun h => by omega)
  refine ⟨k + 1, _, hk, by simp, L.move fun b hb hlt => G.block b hlt (fun e => by cases e; exact hmS hb), s, fun b hb => ?_, hmS, hmw, ?_⟩
  · rcases hb with hb | hb
    · have := hS b hb; omega
    · omega
  · exact (B.trans (F.below (S := S) B.size fun b hb => (hS b hb).1)).grown G (by omega) fun b hb => by cases hb; exact hmw

theorem turn_same {w wr w2 : World} {lb mb k : Nat} {pl ll : List Int} {S : Nat → Prop} (hk : k < ll.length) (hS : ∀ b, S b → w.heap.size ≤ b ∧ b < wr.heap.size) (hm : ¬ S mb) (hmw : w.heap.size ≤ mb) (B : Below w.heap.size w wr)
    (L : IsList S wr lb pl (firsts (ll.take (k + 1))) 0) (s : IsSet w2 mb (firsts (ll.take (k + 1)))) (G : wr.grownBy w2 (some mb)) (hz : w2.heap.size = wr.heap.size) :
    TurnInv w lb mb pl ll (.int .i64 ((k : Int) + 1)) w2 :=
  ⟨k + 1, S, hk, by simp, L.move fun b hb hlt => G.block b hlt (fun e => by cases e; exact hm hb), s, fun b hb => ⟨(hS b hb).1, by have := (hS b hb).2; omega⟩, hm, hmw, B.grown G (by have := B.size; omega) fun b hb => by cases hb; exact hmw⟩

theorem back_start {w wr : World} {lb mb : Nat} {pl ll : List Int} {i : Value} (h : TurnInv w lb mb pl ll i wr) (hi : i = .int .i64 ll.length) (hl : ll.length ≤ 60) : BackInv w lb mb pl ll (.int .i64 (firsts ll).length) wr := by
  obtain ⟨k, S, hk, rfl, L, s, hS, hm, hmw, B⟩ := h
  obtain rfl : k = ll.length := by injection hi with _ hi; omega
  rw [List.take_length] at L s
  exact ⟨firsts ll, 0, S, rfl, by have := firsts_len ll; omega, mem_firsts ll, L, s, hS, hm, hmw, B⟩

theorem back_next {w wr w1 w2 : World} {lb mb pops n : Nat} {pl ll q : List Int} {S : Nat → Prop} (hn : n < q.length) (h60 : q.length + pops ≤ 60) (hq : ∀ x ∈ q, x ∈ ll) (hS : ∀ b, S b → w.heap.size ≤ b ∧ b < wr.heap.size) (hm : ¬ S mb) (hmw : w.heap.size ≤ mb)
    (B : Below w.heap.size w wr) (L : IsList S w1 lb pl (q.eraseIdx n) (pops + 1)) (F : Fr S wr w1) (hnd : q.Nodup) (s : IsSet w2 mb (q.erase (q.getD n 0))) (G : w1.grownBy w2 (some mb)) (hz : w2.heap.size = w1.heap.size) :
    BackInv w lb mb pl ll (.int .i64 ((q.length : Int) - 1)) w2 := by
  have z0 := B.size
  have z1 := F.size
  have el := List.length_eraseIdx_of_lt hn
  have es : q.erase (q.getD n 0) = q.eraseIdx n := by
    rw [List.getD_eq_getElem?_getD, List.getElem?_eq_getElem hn, Option.getD_some]
    exact erase_nodup q n hn hnd
  rw [es] at s
  refine ⟨q.eraseIdx n, pops + 1, S, by rw [el]; congr 1; omega, by omega, fun x hx => hq x (List.mem_of_mem_eraseIdx hx), L.move fun b hb hlt => G.block b hlt (fun e => by cases e; exact hm hb), s, fun b hb => ⟨(hS b hb).1, by have := (hS b hb).2; omega⟩, hm, hmw, ?_⟩
  exact (B.trans (F.below (S := S) B.size fun b hb => (hS b hb).1)).grown G (by omega) fun b hb => by cases hb; exact hmw

theorem turn_cell {w wr w3 : World} {b off k : Nat} {ll : List Int} {x : Int} {S : Nat → Prop} (hc : ∀ j, j < ll.length → w.cell? ⟨b, off + j, none⟩ = some (.int .i64 (ll.getD j 0))) (B : Below w.heap.size w wr)
    (hS : ∀ b, S b → w.heap.size ≤ b ∧ b < wr.heap.size) (F : Fr S wr.drew w3) (cx : wr.cell? ⟨b, off + k, none⟩ = some (.int .i64 x)) (hk : k < ll.length) : w3.cell? ⟨b, off + k, none⟩ = some (.int .i64 x) := by
  refine (World.cell?_of_block (F.block b (World.block_lt_of_cell? wr _ cx) fun hb => ?_)).trans cx
  have h1 := World.block_lt_of_cell? w _ (hc k hk)
  have h2 := (hS b hb).1
  simp at h1
  omega

set_option maxHeartbeats 1000000 in
theorem workTurned_ss (pA : Option Addr) (pn pc : Nat) (picks : List Int) (A : Option Addr) (n c : Nat) (l : List Int) (w : World) (hp : Reads w (.slice pA pn pc) picks) (h : Reads w (.slice A n c) l) (hpn : pn ≤ 100) (hn : n ≤ 60) :
    Calls Try.prog 5 #[.slice pA pn pc, .slice A n c] w fun e w' => e = .returned (.bool true) ∧ Below w.heap.size w w' := by
  obtain ⟨pl, hpl⟩ : ∃ pl, pl = picks := ⟨_, rfl⟩
  have hpr : Reads w (.slice pA pn pc) pl := by rw [hpl]; exact hp
  have hplen : pl.length ≤ 100 := by obtain ⟨_, _, hv, _⟩ := hpr; injection hv with _ h2 _; omega
  clear hpl
  obtain ⟨A', c', hv, hc, hcap, hwf, hA⟩ := h
  injection hv with h1 h2 h3
  subst h1 h2 h3
  obtain ⟨ll, hll⟩ : ∃ ll, ll = l := ⟨l, rfl⟩
  subst hll
  have hll : True := trivial
  have hl60 := hn
  have HA := Lib.hid hA; have HW := Lib.hid hwf; have HL := Lib.hid hll; have RP := Lib.hid hpr
  clear hA hwf hll hp hpr
  unfold maxLen at hcap
  have hmm := @run_makeMap Try.prog
  go_enter Try.func5, Try.ntmps5
  go_wp2_with fail
  refine (begun_true _).mono ?_
  rintro e w1 ⟨rfl, B⟩
  have B1 := Lib.hid B
  clear B
  go_wp2_with fail
  refine (new_any (RP.out.below B1.out) (by omega)).mono ?_
  rintro e w2 ⟨lb, rfl, L, B⟩
  have I0 := Lib.hid (turn_start pl ll B1.out B L)
  obtain ⟨mb, hmb⟩ : ∃ mb, mb = w2.heap.size := ⟨_, rfl⟩
  have HMB := Lib.hid hmb
  clear L B hmb
  go_wp2_with fail
  rw [← HMB.out]
  have I1 := I0.out
  rw [← HMB.out] at I1
  have I2 := Lib.hid I1
  clear I1 I0 hmm
  go_loopw [8] (fun i wr => TurnInv w lb mb pl ll i wr) (fun i _ => ll.length - (intOf i).toNat)
  case atStart => exact I2.out
  case round =>
    obtain ⟨k, S, hk, rfl, L, s, hS, hm, hmw, B⟩ := id hrel
    have LL := Lib.hid L; have SS := Lib.hid s; have HS := Lib.hid hS; have HM := Lib.hid hm; have BB := Lib.hid B; have HR := Lib.hid hrel
    have hql : (firsts (ll.take k)).length ≤ k := Nat.le_trans (firsts_len _) (List.length_take_le _ _)
    have hml := isSet_lt s
    clear L s hS hm B hrel
    by_cases hlt : k < ll.length
    · obtain ⟨b, off, hAe, hcell⟩ := HA.out (by omega)
      subst hAe
      have cx : wr.cell? ⟨b, off + k, none⟩ = some (.int .i64 (ll.getD k 0)) := by
        have h0 := hcell k hlt
        exact (BB.out.cell (p := ⟨b, off + k, none⟩) (World.block_lt_of_cell? w _ h0)).trans h0
      have hx := HW.out (ll.getD k 0) (by rw [List.getD_eq_getElem?_getD, List.getElem?_eq_getElem hlt]; exact List.getElem_mem hlt)
      have LD : IsList S wr.drew lb pl (firsts (ll.take k)) 0 := LL.out.move fun _ _ _ => rfl
      have SD : IsSet wr.drew mb (firsts (ll.take k)) := isSet_move SS.out rfl
      have lk := isSet_look SD (ll.getD k 0) hx
      have FT := Lib.hid (firsts_take ll k hlt)
      have P1 := Lib.hid (fun hin => push_old LD (ll.getD k 0) hx hin)
      have P2 := Lib.hid (fun hin => push_new LD (ll.getD k 0) hx hin (by omega))
      have HC := Lib.hid hcell; have SDD := Lib.hid SD
      have ki0 : (0 : Int) ≤ (k : Int) := Int.natCast_nonneg _
      have ki1 : (k : Int) < (ll.length : Int) := by omega
      clear hcell LD SD
      by_cases hin : ll.getD k 0 ∈ firsts (ll.take k)
      · have HI := Lib.hid hin
        rw [decide_eq_true hin] at lk
        clear hin
        generalize hxx : ll.getD k 0 = x at *
        have HX := Lib.hid hxx
        clear hxx
        have FTI := FT.out
        rw [if_pos HI.out] at FTI
        have FTT := Lib.hid FTI
        clear FTI
        go_wp2_with fail
        go_region_held3 (fun w' => w'.cell? ⟨b, off + k, none⟩ = some (.int .i64 x) ∧ (Instr.lookup 34 (.map (some mb)) (.int .i64 x) false).run Try.prog w' = .ok (.bool true) w')
          (exact ⟨cx, lk⟩)
          (first | (go_at_call 9; refine (P1.out HI.out).mono ?_; rintro e w' ⟨rfl, rfl⟩))
        all_goals
          go_wp2_with (first
            | (at_mapUpdate; refine wpList_set_put _ rfl _ _ _ rfl mb (firsts (ll.take k)) x rfl SDD.out rfl rfl hx (by unfold maxLen; omega) ?_; intro w4 s4 g4 z4; have S4 := Lib.hid s4; have G4 := Lib.hid g4; have Z4 := Lib.hid z4; clear s4 g4 z4)
            | go_in)
          go_roundw
          case rel =>
            have s4 := S4.out
            rw [if_pos HI.out, ← FTT.out] at s4
            have L4 := LL.out
            rw [← FTT.out] at L4
            exact turn_same hlt HS.out HM.out hmw BB.out L4 s4 ⟨G4.out.os, G4.out.tape, G4.out.output, G4.out.size, G4.out.block⟩ Z4.out
          case measure => simp [intOf]; omega
      · have HI := Lib.hid hin
        rw [decide_eq_false hin] at lk
        clear hin
        generalize hxx : ll.getD k 0 = x at *
        have HX := Lib.hid hxx
        clear hxx
        have FTI := FT.out
        rw [if_neg HI.out] at FTI
        have FTT := Lib.hid FTI
        clear FTI
        go_wp2_with fail
        go_region_held3 (fun w' => w'.cell? ⟨b, off + k, none⟩ = some (.int .i64 x) ∧ (Instr.lookup 34 (.map (some mb)) (.int .i64 x) false).run Try.prog w' = .ok (.bool false) w')
          (first | exact ⟨cx, lk⟩ | exact ⟨cx3, lk3⟩)
          (first | (go_at_call 9; refine (P2.out HI.out).mono ?_; rintro e w3 ⟨rfl, L3, F3⟩; have cx3 := turn_cell HC.out BB.out HS.out F3 cx hlt; have s3 := isSet_move SDD.out (F3.block mb hml HM.out); have lk3 := isSet_look s3 x hx; rw [decide_eq_false HI.out] at lk3; have L3 := Lib.hid L3; have F3 := Lib.hid F3; have S3 := Lib.hid s3; clear s3))
        all_goals
          go_wp2_with (first
            | (at_mapUpdate; refine wpList_set_put _ rfl _ _ _ rfl mb (firsts (ll.take k)) x rfl S3.out rfl rfl hx (by unfold maxLen; omega) ?_; intro w4 s4 g4 z4; have S4 := Lib.hid s4; have G4 := Lib.hid g4; have Z4 := Lib.hid z4; clear s4 g4 z4)
            | go_in)
          go_roundw
          case rel =>
            have s4 := S4.out
            rw [if_neg HI.out, ← FTT.out] at s4
            have L4 := L3.out
            rw [← FTT.out] at L4
            exact turn_next hlt HS.out HM.out hmw hml BB.out L4 ⟨F3.out.os, F3.out.tape, F3.out.output, F3.out.size, F3.out.block⟩ s4 G4.out Z4.out
          case measure => simp [intOf]; omega
    · obtain rfl : k = ll.length := by omega
      have I3 := Lib.hid (back_start HR.out rfl hl60)
      have hq := firsts_len ll
      have ss := SS.out
      rw [List.take_length] at ss
      have hlen := isSet_len ss 3
      clear LL SS HS HM HR hlt hql
      generalize (firsts ll).length = qn at *
      have hl60 := hn
      go_wp2_with fail
      clear hlen ss
      go_loopw [9] (fun i wr => BackInv w lb mb pl ll i wr) (fun i _ => (intOf i).toNat)
      case atStart => exact I3.out
      case round =>
        obtain ⟨q, pops, S, rfl, h60, hqm, L, s, hS, hm, hmw, B⟩ := id hrel
        have LL := Lib.hid L; have SS := Lib.hid s; have HS := Lib.hid hS; have HM := Lib.hid hm; have BB := Lib.hid B; have HR := Lib.hid hrel; have HQ := Lib.hid hqm
        have hml := isSet_lt s
        clear L s hS hm B hrel hqm
        by_cases hlt : 0 < q.length
        · have hpl := place_lt pl pops q.length hlt
          have pop1 := pop_any LL.out hlt (by omega) (by omega) (by omega) (fun x hx => HW.out x (HQ.out x hx))
          generalize place pl pops q.length = at_ at *
          have hxm : q.getD at_ 0 ∈ q := by rw [List.getD_eq_getElem?_getD, List.getElem?_eq_getElem hpl]; exact List.getElem_mem hpl
          have hx := HW.out _ (HQ.out _ hxm)
          have hel := List.length_eraseIdx_of_lt hpl
          generalize hxx : q.getD at_ 0 = x at *
          have HX := Lib.hid hxx; have PP := Lib.hid pop1; have HXM := Lib.hid hxm
          clear hxx pop1 hxm
          go_wp2_with fail
          refine PP.out.mono ?_
          rintro e w3 ⟨rfl, L3, F3⟩
          have s3 := isSet_move SS.out (F3.block mb hml HM.out)
          have lk3 := isSet_look s3 x hx
          rw [decide_eq_true HXM.out] at lk3
          have len3 : Calls Try.prog 11 #[.pointer (some ⟨lb, 0, none⟩)] w3 fun e w' => e = .returned (.int .i64 ((q.length : Int) - 1)) ∧ w3 = w' :=
            (len_any L3).mono fun e w' h => ⟨by rw [h.1, hel]; congr 2; omega, h.2⟩
          have L33 := Lib.hid L3; have F33 := Lib.hid F3; have S3 := Lib.hid s3; have N3 := Lib.hid len3; have HEL := Lib.hid hel
          clear L3 F3 s3 len3 hel
          go_wp2_with fail
          refine N3.out.mono ?_
          rintro e w' ⟨rfl, rfl⟩
          go_wp2_with (first
            | (at_delete; refine wpList_set_drop _ rfl _ _ rfl mb q x rfl S3.out rfl hx LL.out.nodup ?_; intro w4 s4 g4 z4; have S4 := Lib.hid s4; have G4 := Lib.hid g4; have Z4 := Lib.hid z4; clear s4 g4 z4)
            | go_in)
          go_roundw
          case rel =>
            have s4 := S4.out
            have nd := LL.out.nodup
            rw [← HX.out] at s4
            exact back_next hpl h60 HQ.out HS.out HM.out hmw BB.out L33.out F33.out nd s4 G4.out Z4.out
          case measure => simp [intOf]; omega
        · obtain rfl : q = [] := List.eq_nil_of_length_eq_zero (by omega)
          go_wp2_with fail
          refine (pop_empty LL.out).mono ?_
          rintro e w' ⟨rfl, rfl⟩
          go_wp2_with fail
          go_ret
          exact ⟨rfl, BB.out⟩

set_option maxHeartbeats 1000000 in
theorem workTurned_sg (pA : Option Addr) (pn pc : Nat) (picks : List Int) (A : Option Addr) (n c : Nat) (l : List Int) (w : World) (hp : Reads w (.slice pA pn pc) picks) (h : Reads w (.slice A n c) l) (hpn : pn ≤ 100) (hn : 60 < n) :
    Calls Try.prog 5 #[.slice pA pn pc, .slice A n c] w fun e w' => e = .returned (.bool true) ∧ Below w.heap.size w w' := by
  obtain ⟨pl, hpl⟩ : ∃ pl, pl = picks := ⟨_, rfl⟩
  have hpr : Reads w (.slice pA pn pc) pl := by rw [hpl]; exact hp
  have hplen : pl.length ≤ 100 := by obtain ⟨_, _, hv, _⟩ := hpr; injection hv with _ h2 _; omega
  clear hpl
  obtain ⟨A', c', hv, hc, hcap, hwf, hA⟩ := h
  injection hv with h1 h2 h3
  subst h1 h2 h3
  obtain ⟨b, off, rfl, hcell⟩ := hA (by omega)
  obtain ⟨ll, hll⟩ : ∃ ll, ll = l.take 60 := ⟨_, rfl⟩
  have hlen : ll.length = 60 := by rw [hll, List.length_take]; omega
  have hA : 0 < ll.length → ∃ b' off', some (⟨b, off, none⟩ : Addr) = some ⟨b', off', none⟩ ∧ ∀ j, j < ll.length → w.cell? ⟨b', off' + j, none⟩ = some (.int .i64 (ll.getD j 0)) := by
    intro _
    refine ⟨b, off, rfl, fun j hj => ?_⟩
    rw [hcell j (by omega), hll]
    simp [List.getD_eq_getElem?_getD, show j < 60 by omega]
  have hwf : ∀ x ∈ ll, (Lit.int .i64 x).wf = true := fun x hx => hwf x (by rw [hll] at hx; exact List.mem_of_mem_take hx)
  have HLEN := Lib.hid hlen
  have hn1 : 60 ≤ c := by omega
  have hl60 : ll.length ≤ 60 := by omega
  clear hlen hcell
  have HA := Lib.hid hA; have HW := Lib.hid hwf; have HL := Lib.hid hll; have RP := Lib.hid hpr
  clear hA hwf hll hp hpr
  unfold maxLen at hcap
  have hmm := @run_makeMap Try.prog
  go_enter Try.func5, Try.ntmps5
  go_wp2_with fail
  refine (begun_true _).mono ?_
  rintro e w1 ⟨rfl, B⟩
  have B1 := Lib.hid B
  clear B
  go_wp2_with fail
  refine (new_any (RP.out.below B1.out) (by omega)).mono ?_
  rintro e w2 ⟨lb, rfl, L, B⟩
  have I0 := Lib.hid (turn_start pl ll B1.out B L)
  obtain ⟨mb, hmb⟩ : ∃ mb, mb = w2.heap.size := ⟨_, rfl⟩
  have HMB := Lib.hid hmb
  clear L B hmb
  go_wp2_with fail
  rw [← HMB.out]
  have I1 := I0.out
  rw [← HMB.out] at I1
  have I2 := Lib.hid I1
  clear I1 I0 hmm
  go_loopw [8] (fun i wr => TurnInv w lb mb pl ll i wr) (fun i _ => ll.length - (intOf i).toNat)
  case atStart => exact I2.out
  case round =>
    obtain ⟨k, S, hk, rfl, L, s, hS, hm, hmw, B⟩ := id hrel
    have LL := Lib.hid L; have SS := Lib.hid s; have HS := Lib.hid hS; have HM := Lib.hid hm; have BB := Lib.hid B; have HR := Lib.hid hrel
    have hql : (firsts (ll.take k)).length ≤ k := Nat.le_trans (firsts_len _) (List.length_take_le _ _)
    have hml := isSet_lt s
    clear L s hS hm B hrel
    by_cases hlt : k < ll.length
    · obtain ⟨b, off, hAe, hcell⟩ := HA.out (by omega)
      injection hAe with hAe
      injection hAe with h1 h2
      subst h1 h2
      have hlt60 : k < 60 := by omega
      have hlt60' : (k : Int) < 60 := by omega
      have cx : wr.cell? ⟨b, off + k, none⟩ = some (.int .i64 (ll.getD k 0)) := by
        have h0 := hcell k hlt
        exact (BB.out.cell (p := ⟨b, off + k, none⟩) (World.block_lt_of_cell? w _ h0)).trans h0
      have hx := HW.out (ll.getD k 0) (by rw [List.getD_eq_getElem?_getD, List.getElem?_eq_getElem hlt]; exact List.getElem_mem hlt)
      have LD : IsList S wr.drew lb pl (firsts (ll.take k)) 0 := LL.out.move fun _ _ _ => rfl
      have SD : IsSet wr.drew mb (firsts (ll.take k)) := isSet_move SS.out rfl
      have lk := isSet_look SD (ll.getD k 0) hx
      have FT := Lib.hid (firsts_take ll k hlt)
      have P1 := Lib.hid (fun hin => push_old LD (ll.getD k 0) hx hin)
      have P2 := Lib.hid (fun hin => push_new LD (ll.getD k 0) hx hin (by omega))
      have HC := Lib.hid hcell; have SDD := Lib.hid SD
      have ki0 : (0 : Int) ≤ (k : Int) := Int.natCast_nonneg _
      have ki1 : (k : Int) < (ll.length : Int) := by omega
      clear hcell LD SD
      by_cases hin : ll.getD k 0 ∈ firsts (ll.take k)
      · have HI := Lib.hid hin
        rw [decide_eq_true hin] at lk
        clear hin
        generalize hxx : ll.getD k 0 = x at *
        have HX := Lib.hid hxx
        clear hxx
        have FTI := FT.out
        rw [if_pos HI.out] at FTI
        have FTT := Lib.hid FTI
        clear FTI
        go_wp2_with fail
        go_region_held3 (fun w' => w'.cell? ⟨b, off + k, none⟩ = some (.int .i64 x) ∧ (Instr.lookup 34 (.map (some mb)) (.int .i64 x) false).run Try.prog w' = .ok (.bool true) w')
          (exact ⟨cx, lk⟩)
          (first | (go_at_call 9; refine (P1.out HI.out).mono ?_; rintro e w' ⟨rfl, rfl⟩))
        all_goals
          go_wp2_with (first
            | (at_mapUpdate; refine wpList_set_put _ rfl _ _ _ rfl mb (firsts (ll.take k)) x rfl SDD.out rfl rfl hx (by unfold maxLen; omega) ?_; intro w4 s4 g4 z4; have S4 := Lib.hid s4; have G4 := Lib.hid g4; have Z4 := Lib.hid z4; clear s4 g4 z4)
            | go_in)
          go_roundw
          case rel =>
            have s4 := S4.out
            rw [if_pos HI.out, ← FTT.out] at s4
            have L4 := LL.out
            rw [← FTT.out] at L4
            exact turn_same hlt HS.out HM.out hmw BB.out L4 s4 ⟨G4.out.os, G4.out.tape, G4.out.output, G4.out.size, G4.out.block⟩ Z4.out
          case measure => simp [intOf]; omega
      · have HI := Lib.hid hin
        rw [decide_eq_false hin] at lk
        clear hin
        generalize hxx : ll.getD k 0 = x at *
        have HX := Lib.hid hxx
        clear hxx
        have FTI := FT.out
        rw [if_neg HI.out] at FTI
        have FTT := Lib.hid FTI
        clear FTI
        go_wp2_with fail
        go_region_held3 (fun w' => w'.cell? ⟨b, off + k, none⟩ = some (.int .i64 x) ∧ (Instr.lookup 34 (.map (some mb)) (.int .i64 x) false).run Try.prog w' = .ok (.bool false) w')
          (first | exact ⟨cx, lk⟩ | exact ⟨cx3, lk3⟩)
          (first | (go_at_call 9; refine (P2.out HI.out).mono ?_; rintro e w3 ⟨rfl, L3, F3⟩; have cx3 := turn_cell HC.out BB.out HS.out F3 cx hlt; have s3 := isSet_move SDD.out (F3.block mb hml HM.out); have lk3 := isSet_look s3 x hx; rw [decide_eq_false HI.out] at lk3; have L3 := Lib.hid L3; have F3 := Lib.hid F3; have S3 := Lib.hid s3; clear s3))
        all_goals
          go_wp2_with (first
            | (at_mapUpdate; refine wpList_set_put _ rfl _ _ _ rfl mb (firsts (ll.take k)) x rfl S3.out rfl rfl hx (by unfold maxLen; omega) ?_; intro w4 s4 g4 z4; have S4 := Lib.hid s4; have G4 := Lib.hid g4; have Z4 := Lib.hid z4; clear s4 g4 z4)
            | go_in)
          go_roundw
          case rel =>
            have s4 := S4.out
            rw [if_neg HI.out, ← FTT.out] at s4
            have L4 := L3.out
            rw [← FTT.out] at L4
            exact turn_next hlt HS.out HM.out hmw hml BB.out L4 ⟨F3.out.os, F3.out.tape, F3.out.output, F3.out.size, F3.out.block⟩ s4 G4.out Z4.out
          case measure => simp [intOf]; omega
    · obtain rfl : k = ll.length := by omega
      have I3 := Lib.hid (back_start HR.out rfl hl60)
      have hq := firsts_len ll
      have ss := SS.out
      rw [List.take_length] at ss
      have hlen := isSet_len ss 3
      clear LL SS HS HM HR hlt hql
      generalize (firsts ll).length = qn at *
      have hge60 : (60 : Int) ≤ (ll.length : Int) := by have := HLEN.out; omega
      go_wp2_with fail
      clear hlen ss
      go_loopw [9] (fun i wr => BackInv w lb mb pl ll i wr) (fun i _ => (intOf i).toNat)
      case atStart => exact I3.out
      case round =>
        obtain ⟨q, pops, S, rfl, h60, hqm, L, s, hS, hm, hmw, B⟩ := id hrel
        have LL := Lib.hid L; have SS := Lib.hid s; have HS := Lib.hid hS; have HM := Lib.hid hm; have BB := Lib.hid B; have HR := Lib.hid hrel; have HQ := Lib.hid hqm
        have hml := isSet_lt s
        clear L s hS hm B hrel hqm
        by_cases hlt : 0 < q.length
        · have hpl := place_lt pl pops q.length hlt
          have pop1 := pop_any LL.out hlt (by omega) (by omega) (by omega) (fun x hx => HW.out x (HQ.out x hx))
          generalize place pl pops q.length = at_ at *
          have hxm : q.getD at_ 0 ∈ q := by rw [List.getD_eq_getElem?_getD, List.getElem?_eq_getElem hpl]; exact List.getElem_mem hpl
          have hx := HW.out _ (HQ.out _ hxm)
          have hel := List.length_eraseIdx_of_lt hpl
          generalize hxx : q.getD at_ 0 = x at *
          have HX := Lib.hid hxx; have PP := Lib.hid pop1; have HXM := Lib.hid hxm
          clear hxx pop1 hxm
          go_wp2_with fail
          refine PP.out.mono ?_
          rintro e w3 ⟨rfl, L3, F3⟩
          have s3 := isSet_move SS.out (F3.block mb hml HM.out)
          have lk3 := isSet_look s3 x hx
          rw [decide_eq_true HXM.out] at lk3
          have len3 : Calls Try.prog 11 #[.pointer (some ⟨lb, 0, none⟩)] w3 fun e w' => e = .returned (.int .i64 ((q.length : Int) - 1)) ∧ w3 = w' :=
            (len_any L3).mono fun e w' h => ⟨by rw [h.1, hel]; congr 2; omega, h.2⟩
          have L33 := Lib.hid L3; have F33 := Lib.hid F3; have S3 := Lib.hid s3; have N3 := Lib.hid len3; have HEL := Lib.hid hel
          clear L3 F3 s3 len3 hel
          go_wp2_with fail
          refine N3.out.mono ?_
          rintro e w' ⟨rfl, rfl⟩
          go_wp2_with (first
            | (at_delete; refine wpList_set_drop _ rfl _ _ rfl mb q x rfl S3.out rfl hx LL.out.nodup ?_; intro w4 s4 g4 z4; have S4 := Lib.hid s4; have G4 := Lib.hid g4; have Z4 := Lib.hid z4; clear s4 g4 z4)
            | go_in)
          go_roundw
          case rel =>
            have s4 := S4.out
            have nd := LL.out.nodup
            rw [← HX.out] at s4
            exact back_next hpl h60 HQ.out HS.out HM.out hmw BB.out L33.out F33.out nd s4 G4.out Z4.out
          case measure => simp [intOf]; omega
        · obtain rfl : q = [] := List.eq_nil_of_length_eq_zero (by omega)
          go_wp2_with fail
          refine (pop_empty LL.out).mono ?_
          rintro e w' ⟨rfl, rfl⟩
          go_wp2_with fail
          go_ret
          exact ⟨rfl, BB.out⟩

set_option maxHeartbeats 1000000 in
theorem workTurned_gs (pA : Option Addr) (pn pc : Nat) (picks : List Int) (A : Option Addr) (n c : Nat) (l : List Int) (w : World) (hp : Reads w (.slice pA pn pc) picks) (h : Reads w (.slice A n c) l) (hpn : 100 < pn) (hn : n ≤ 60) :
    Calls Try.prog 5 #[.slice pA pn pc, .slice A n c] w fun e w' => e = .returned (.bool true) ∧ Below w.heap.size w w' := by
  obtain ⟨pA', pc', pv, ppc, ppm, _, ppA⟩ := id hp
  injection pv with p1 p2 p3
  subst p1 p3
  obtain ⟨pb, poff, rfl, _⟩ := ppA (by omega)
  clear ppA
  obtain ⟨pl, hpl⟩ : ∃ pl, pl = picks.take 100 := ⟨_, rfl⟩
  have hpr : Reads w (.slice (some ⟨pb, poff, none⟩) 100 pc) pl := by rw [hpl]; exact hp.take 100 (by omega)
  have hplen : pl.length ≤ 100 := by rw [hpl, List.length_take]; omega
  have hpc100 : 100 ≤ pc := by omega
  unfold maxLen at ppm
  clear hpl p2
  obtain ⟨A', c', hv, hc, hcap, hwf, hA⟩ := h
  injection hv with h1 h2 h3
  subst h1 h2 h3
  obtain ⟨ll, hll⟩ : ∃ ll, ll = l := ⟨l, rfl⟩
  subst hll
  have hll : True := trivial
  have hl60 := hn
  have HA := Lib.hid hA; have HW := Lib.hid hwf; have HL := Lib.hid hll; have RP := Lib.hid hpr
  clear hA hwf hll hp hpr
  unfold maxLen at hcap
  have hmm := @run_makeMap Try.prog
  go_enter Try.func5, Try.ntmps5
  go_wp2_with fail
  refine (begun_true _).mono ?_
  rintro e w1 ⟨rfl, B⟩
  have B1 := Lib.hid B
  clear B
  go_wp2_with fail
  refine (new_any (RP.out.below B1.out) (by omega)).mono ?_
  rintro e w2 ⟨lb, rfl, L, B⟩
  have I0 := Lib.hid (turn_start pl ll B1.out B L)
  obtain ⟨mb, hmb⟩ : ∃ mb, mb = w2.heap.size := ⟨_, rfl⟩
  have HMB := Lib.hid hmb
  clear L B hmb
  go_wp2_with fail
  rw [← HMB.out]
  have I1 := I0.out
  rw [← HMB.out] at I1
  have I2 := Lib.hid I1
  clear I1 I0 hmm
  go_loopw [8] (fun i wr => TurnInv w lb mb pl ll i wr) (fun i _ => ll.length - (intOf i).toNat)
  case atStart => exact I2.out
  case round =>
    obtain ⟨k, S, hk, rfl, L, s, hS, hm, hmw, B⟩ := id hrel
    have LL := Lib.hid L; have SS := Lib.hid s; have HS := Lib.hid hS; have HM := Lib.hid hm; have BB := Lib.hid B; have HR := Lib.hid hrel
    have hql : (firsts (ll.take k)).length ≤ k := Nat.le_trans (firsts_len _) (List.length_take_le _ _)
    have hml := isSet_lt s
    clear L s hS hm B hrel
    by_cases hlt : k < ll.length
    · obtain ⟨b, off, hAe, hcell⟩ := HA.out (by omega)
      subst hAe
      have cx : wr.cell? ⟨b, off + k, none⟩ = some (.int .i64 (ll.getD k 0)) := by
        have h0 := hcell k hlt
        exact (BB.out.cell (p := ⟨b, off + k, none⟩) (World.block_lt_of_cell? w _ h0)).trans h0
      have hx := HW.out (ll.getD k 0) (by rw [List.getD_eq_getElem?_getD, List.getElem?_eq_getElem hlt]; exact List.getElem_mem hlt)
      have LD : IsList S wr.drew lb pl (firsts (ll.take k)) 0 := LL.out.move fun _ _ _ => rfl
      have SD : IsSet wr.drew mb (firsts (ll.take k)) := isSet_move SS.out rfl
      have lk := isSet_look SD (ll.getD k 0) hx
      have FT := Lib.hid (firsts_take ll k hlt)
      have P1 := Lib.hid (fun hin => push_old LD (ll.getD k 0) hx hin)
      have P2 := Lib.hid (fun hin => push_new LD (ll.getD k 0) hx hin (by omega))
      have HC := Lib.hid hcell; have SDD := Lib.hid SD
      have ki0 : (0 : Int) ≤ (k : Int) := Int.natCast_nonneg _
      have ki1 : (k : Int) < (ll.length : Int) := by omega
      clear hcell LD SD
      by_cases hin : ll.getD k 0 ∈ firsts (ll.take k)
      · have HI := Lib.hid hin
        rw [decide_eq_true hin] at lk
        clear hin
        generalize hxx : ll.getD k 0 = x at *
        have HX := Lib.hid hxx
        clear hxx
        have FTI := FT.out
        rw [if_pos HI.out] at FTI
        have FTT := Lib.hid FTI
        clear FTI
        go_wp2_with fail
        go_region_held3 (fun w' => w'.cell? ⟨b, off + k, none⟩ = some (.int .i64 x) ∧ (Instr.lookup 34 (.map (some mb)) (.int .i64 x) false).run Try.prog w' = .ok (.bool true) w')
          (exact ⟨cx, lk⟩)
          (first | (go_at_call 9; refine (P1.out HI.out).mono ?_; rintro e w' ⟨rfl, rfl⟩))
        all_goals
          go_wp2_with (first
            | (at_mapUpdate; refine wpList_set_put _ rfl _ _ _ rfl mb (firsts (ll.take k)) x rfl SDD.out rfl rfl hx (by unfold maxLen; omega) ?_; intro w4 s4 g4 z4; have S4 := Lib.hid s4; have G4 := Lib.hid g4; have Z4 := Lib.hid z4; clear s4 g4 z4)
            | go_in)
          go_roundw
          case rel =>
            have s4 := S4.out
            rw [if_pos HI.out, ← FTT.out] at s4
            have L4 := LL.out
            rw [← FTT.out] at L4
            exact turn_same hlt HS.out HM.out hmw BB.out L4 s4 ⟨G4.out.os, G4.out.tape, G4.out.output, G4.out.size, G4.out.block⟩ Z4.out
          case measure => simp [intOf]; omega
      · have HI := Lib.hid hin
        rw [decide_eq_false hin] at lk
        clear hin
        generalize hxx : ll.getD k 0 = x at *
        have HX := Lib.hid hxx
        clear hxx
        have FTI := FT.out
        rw [if_neg HI.out] at FTI
        have FTT := Lib.hid FTI
        clear FTI
        go_wp2_with fail
        go_region_held3 (fun w' => w'.cell? ⟨b, off + k, none⟩ = some (.int .i64 x) ∧ (Instr.lookup 34 (.map (some mb)) (.int .i64 x) false).run Try.prog w' = .ok (.bool false) w')
          (first | exact ⟨cx, lk⟩ | exact ⟨cx3, lk3⟩)
          (first | (go_at_call 9; refine (P2.out HI.out).mono ?_; rintro e w3 ⟨rfl, L3, F3⟩; have cx3 := turn_cell HC.out BB.out HS.out F3 cx hlt; have s3 := isSet_move SDD.out (F3.block mb hml HM.out); have lk3 := isSet_look s3 x hx; rw [decide_eq_false HI.out] at lk3; have L3 := Lib.hid L3; have F3 := Lib.hid F3; have S3 := Lib.hid s3; clear s3))
        all_goals
          go_wp2_with (first
            | (at_mapUpdate; refine wpList_set_put _ rfl _ _ _ rfl mb (firsts (ll.take k)) x rfl S3.out rfl rfl hx (by unfold maxLen; omega) ?_; intro w4 s4 g4 z4; have S4 := Lib.hid s4; have G4 := Lib.hid g4; have Z4 := Lib.hid z4; clear s4 g4 z4)
            | go_in)
          go_roundw
          case rel =>
            have s4 := S4.out
            rw [if_neg HI.out, ← FTT.out] at s4
            have L4 := L3.out
            rw [← FTT.out] at L4
            exact turn_next hlt HS.out HM.out hmw hml BB.out L4 ⟨F3.out.os, F3.out.tape, F3.out.output, F3.out.size, F3.out.block⟩ s4 G4.out Z4.out
          case measure => simp [intOf]; omega
    · obtain rfl : k = ll.length := by omega
      have I3 := Lib.hid (back_start HR.out rfl hl60)
      have hq := firsts_len ll
      have ss := SS.out
      rw [List.take_length] at ss
      have hlen := isSet_len ss 3
      clear LL SS HS HM HR hlt hql
      generalize (firsts ll).length = qn at *
      have hl60 := hn
      go_wp2_with fail
      clear hlen ss
      go_loopw [9] (fun i wr => BackInv w lb mb pl ll i wr) (fun i _ => (intOf i).toNat)
      case atStart => exact I3.out
      case round =>
        obtain ⟨q, pops, S, rfl, h60, hqm, L, s, hS, hm, hmw, B⟩ := id hrel
        have LL := Lib.hid L; have SS := Lib.hid s; have HS := Lib.hid hS; have HM := Lib.hid hm; have BB := Lib.hid B; have HR := Lib.hid hrel; have HQ := Lib.hid hqm
        have hml := isSet_lt s
        clear L s hS hm B hrel hqm
        by_cases hlt : 0 < q.length
        · have hpl := place_lt pl pops q.length hlt
          have pop1 := pop_any LL.out hlt (by omega) (by omega) (by omega) (fun x hx => HW.out x (HQ.out x hx))
          generalize place pl pops q.length = at_ at *
          have hxm : q.getD at_ 0 ∈ q := by rw [List.getD_eq_getElem?_getD, List.getElem?_eq_getElem hpl]; exact List.getElem_mem hpl
          have hx := HW.out _ (HQ.out _ hxm)
          have hel := List.length_eraseIdx_of_lt hpl
          generalize hxx : q.getD at_ 0 = x at *
          have HX := Lib.hid hxx; have PP := Lib.hid pop1; have HXM := Lib.hid hxm
          clear hxx pop1 hxm
          go_wp2_with fail
          refine PP.out.mono ?_
          rintro e w3 ⟨rfl, L3, F3⟩
          have s3 := isSet_move SS.out (F3.block mb hml HM.out)
          have lk3 := isSet_look s3 x hx
          rw [decide_eq_true HXM.out] at lk3
          have len3 : Calls Try.prog 11 #[.pointer (some ⟨lb, 0, none⟩)] w3 fun e w' => e = .returned (.int .i64 ((q.length : Int) - 1)) ∧ w3 = w' :=
            (len_any L3).mono fun e w' h => ⟨by rw [h.1, hel]; congr 2; omega, h.2⟩
          have L33 := Lib.hid L3; have F33 := Lib.hid F3; have S3 := Lib.hid s3; have N3 := Lib.hid len3; have HEL := Lib.hid hel
          clear L3 F3 s3 len3 hel
          go_wp2_with fail
          refine N3.out.mono ?_
          rintro e w' ⟨rfl, rfl⟩
          go_wp2_with (first
            | (at_delete; refine wpList_set_drop _ rfl _ _ rfl mb q x rfl S3.out rfl hx LL.out.nodup ?_; intro w4 s4 g4 z4; have S4 := Lib.hid s4; have G4 := Lib.hid g4; have Z4 := Lib.hid z4; clear s4 g4 z4)
            | go_in)
          go_roundw
          case rel =>
            have s4 := S4.out
            have nd := LL.out.nodup
            rw [← HX.out] at s4
            exact back_next hpl h60 HQ.out HS.out HM.out hmw BB.out L33.out F33.out nd s4 G4.out Z4.out
          case measure => simp [intOf]; omega
        · obtain rfl : q = [] := List.eq_nil_of_length_eq_zero (by omega)
          go_wp2_with fail
          refine (pop_empty LL.out).mono ?_
          rintro e w' ⟨rfl, rfl⟩
          go_wp2_with fail
          go_ret
          exact ⟨rfl, BB.out⟩

set_option maxHeartbeats 1000000 in
theorem workTurned_gg (pA : Option Addr) (pn pc : Nat) (picks : List Int) (A : Option Addr) (n c : Nat) (l : List Int) (w : World) (hp : Reads w (.slice pA pn pc) picks) (h : Reads w (.slice A n c) l) (hpn : 100 < pn) (hn : 60 < n) :
    Calls Try.prog 5 #[.slice pA pn pc, .slice A n c] w fun e w' => e = .returned (.bool true) ∧ Below w.heap.size w w' := by
  obtain ⟨pA', pc', pv, ppc, ppm, _, ppA⟩ := id hp
  injection pv with p1 p2 p3
  subst p1 p3
  obtain ⟨pb, poff, rfl, _⟩ := ppA (by omega)
  clear ppA
  obtain ⟨pl, hpl⟩ : ∃ pl, pl = picks.take 100 := ⟨_, rfl⟩
  have hpr : Reads w (.slice (some ⟨pb, poff, none⟩) 100 pc) pl := by rw [hpl]; exact hp.take 100 (by omega)
  have hplen : pl.length ≤ 100 := by rw [hpl, List.length_take]; omega
  have hpc100 : 100 ≤ pc := by omega
  unfold maxLen at ppm
  clear hpl p2
  obtain ⟨A', c', hv, hc, hcap, hwf, hA⟩ := h
  injection hv with h1 h2 h3
  subst h1 h2 h3
  obtain ⟨b, off, rfl, hcell⟩ := hA (by omega)
  obtain ⟨ll, hll⟩ : ∃ ll, ll = l.take 60 := ⟨_, rfl⟩
  have hlen : ll.length = 60 := by rw [hll, List.length_take]; omega
  have hA : 0 < ll.length → ∃ b' off', some (⟨b, off, none⟩ : Addr) = some ⟨b', off', none⟩ ∧ ∀ j, j < ll.length → w.cell? ⟨b', off' + j, none⟩ = some (.int .i64 (ll.getD j 0)) := by
    intro _
    refine ⟨b, off, rfl, fun j hj => ?_⟩
    rw [hcell j (by omega), hll]
    simp [List.getD_eq_getElem?_getD, show j < 60 by omega]
  have hwf : ∀ x ∈ ll, (Lit.int .i64 x).wf = true := fun x hx => hwf x (by rw [hll] at hx; exact List.mem_of_mem_take hx)
  have HLEN := Lib.hid hlen
  have hn1 : 60 ≤ c := by omega
  have hl60 : ll.length ≤ 60 := by omega
  clear hlen hcell
  have HA := Lib.hid hA; have HW := Lib.hid hwf; have HL := Lib.hid hll; have RP := Lib.hid hpr
  clear hA hwf hll hp hpr
  unfold maxLen at hcap
  have hmm := @run_makeMap Try.prog
  go_enter Try.func5, Try.ntmps5
  go_wp2_with fail
  refine (begun_true _).mono ?_
  rintro e w1 ⟨rfl, B⟩
  have B1 := Lib.hid B
  clear B
  go_wp2_with fail
  refine (new_any (RP.out.below B1.out) (by omega)).mono ?_
  rintro e w2 ⟨lb, rfl, L, B⟩
  have I0 := Lib.hid (turn_start pl ll B1.out B L)
  obtain ⟨mb, hmb⟩ : ∃ mb, mb = w2.heap.size := ⟨_, rfl⟩
  have HMB := Lib.hid hmb
  clear L B hmb
  go_wp2_with fail
  rw [← HMB.out]
  have I1 := I0.out
  rw [← HMB.out] at I1
  have I2 := Lib.hid I1
  clear I1 I0 hmm
  go_loopw [8] (fun i wr => TurnInv w lb mb pl ll i wr) (fun i _ => ll.length - (intOf i).toNat)
  case atStart => exact I2.out
  case round =>
    obtain ⟨k, S, hk, rfl, L, s, hS, hm, hmw, B⟩ := id hrel
    have LL := Lib.hid L; have SS := Lib.hid s; have HS := Lib.hid hS; have HM := Lib.hid hm; have BB := Lib.hid B; have HR := Lib.hid hrel
    have hql : (firsts (ll.take k)).length ≤ k := Nat.le_trans (firsts_len _) (List.length_take_le _ _)
    have hml := isSet_lt s
    clear L s hS hm B hrel
    by_cases hlt : k < ll.length
    · obtain ⟨b, off, hAe, hcell⟩ := HA.out (by omega)
      injection hAe with hAe
      injection hAe with h1 h2
      subst h1 h2
      have hlt60 : k < 60 := by omega
      have hlt60' : (k : Int) < 60 := by omega
      have cx : wr.cell? ⟨b, off + k, none⟩ = some (.int .i64 (ll.getD k 0)) := by
        have h0 := hcell k hlt
        exact (BB.out.cell (p := ⟨b, off + k, none⟩) (World.block_lt_of_cell? w _ h0)).trans h0
      have hx := HW.out (ll.getD k 0) (by rw [List.getD_eq_getElem?_getD, List.getElem?_eq_getElem hlt]; exact List.getElem_mem hlt)
      have LD : IsList S wr.drew lb pl (firsts (ll.take k)) 0 := LL.out.move fun _ _ _ => rfl
      have SD : IsSet wr.drew mb (firsts (ll.take k)) := isSet_move SS.out rfl
      have lk := isSet_look SD (ll.getD k 0) hx
      have FT := Lib.hid (firsts_take ll k hlt)
      have P1 := Lib.hid (fun hin => push_old LD (ll.getD k 0) hx hin)
      have P2 := Lib.hid (fun hin => push_new LD (ll.getD k 0) hx hin (by omega))
      have HC := Lib.hid hcell; have SDD := Lib.hid SD
      have ki0 : (0 : Int) ≤ (k : Int) := Int.natCast_nonneg _
      have ki1 : (k : Int) < (ll.length : Int) := by omega
      clear hcell LD SD
      by_cases hin : ll.getD k 0 ∈ firsts (ll.take k)
      · have HI := Lib.hid hin
        rw [decide_eq_true hin] at lk
        clear hin
        generalize hxx : ll.getD k 0 = x at *
        have HX := Lib.hid hxx
        clear hxx
        have FTI := FT.out
        rw [if_pos HI.out] at FTI
        have FTT := Lib.hid FTI
        clear FTI
        go_wp2_with fail
        go_region_held3 (fun w' => w'.cell? ⟨b, off + k, none⟩ = some (.int .i64 x) ∧ (Instr.lookup 34 (.map (some mb)) (.int .i64 x) false).run Try.prog w' = .ok (.bool true) w')
          (exact ⟨cx, lk⟩)
          (first | (go_at_call 9; refine (P1.out HI.out).mono ?_; rintro e w' ⟨rfl, rfl⟩))
        all_goals
          go_wp2_with (first
            | (at_mapUpdate; refine wpList_set_put _ rfl _ _ _ rfl mb (firsts (ll.take k)) x rfl SDD.out rfl rfl hx (by unfold maxLen; omega) ?_; intro w4 s4 g4 z4; have S4 := Lib.hid s4; have G4 := Lib.hid g4; have Z4 := Lib.hid z4; clear s4 g4 z4)
            | go_in)
          go_roundw
          case rel =>
            have s4 := S4.out
            rw [if_pos HI.out, ← FTT.out] at s4
            have L4 := LL.out
            rw [← FTT.out] at L4
            exact turn_same hlt HS.out HM.out hmw BB.out L4 s4 ⟨G4.out.os, G4.out.tape, G4.out.output, G4.out.size, G4.out.block⟩ Z4.out
          case measure => simp [intOf]; omega
      · have HI := Lib.hid hin
        rw [decide_eq_false hin] at lk
        clear hin
        generalize hxx : ll.getD k 0 = x at *
        have HX := Lib.hid hxx
        clear hxx
        have FTI := FT.out
        rw [if_neg HI.out] at FTI
        have FTT := Lib.hid FTI
        clear FTI
        go_wp2_with fail
        go_region_held3 (fun w' => w'.cell? ⟨b, off + k, none⟩ = some (.int .i64 x) ∧ (Instr.lookup 34 (.map (some mb)) (.int .i64 x) false).run Try.prog w' = .ok (.bool false) w')
          (first | exact ⟨cx, lk⟩ | exact ⟨cx3, lk3⟩)
          (first | (go_at_call 9; refine (P2.out HI.out).mono ?_; rintro e w3 ⟨rfl, L3, F3⟩; have cx3 := turn_cell HC.out BB.out HS.out F3 cx hlt; have s3 := isSet_move SDD.out (F3.block mb hml HM.out); have lk3 := isSet_look s3 x hx; rw [decide_eq_false HI.out] at lk3; have L3 := Lib.hid L3; have F3 := Lib.hid F3; have S3 := Lib.hid s3; clear s3))
        all_goals
          go_wp2_with (first
            | (at_mapUpdate; refine wpList_set_put _ rfl _ _ _ rfl mb (firsts (ll.take k)) x rfl S3.out rfl rfl hx (by unfold maxLen; omega) ?_; intro w4 s4 g4 z4; have S4 := Lib.hid s4; have G4 := Lib.hid g4; have Z4 := Lib.hid z4; clear s4 g4 z4)
            | go_in)
          go_roundw
          case rel =>
            have s4 := S4.out
            rw [if_neg HI.out, ← FTT.out] at s4
            have L4 := L3.out
            rw [← FTT.out] at L4
            exact turn_next hlt HS.out HM.out hmw hml BB.out L4 ⟨F3.out.os, F3.out.tape, F3.out.output, F3.out.size, F3.out.block⟩ s4 G4.out Z4.out
          case measure => simp [intOf]; omega
    · obtain rfl : k = ll.length := by omega
      have I3 := Lib.hid (back_start HR.out rfl hl60)
      have hq := firsts_len ll
      have ss := SS.out
      rw [List.take_length] at ss
      have hlen := isSet_len ss 3
      clear LL SS HS HM HR hlt hql
      generalize (firsts ll).length = qn at *
      have hge60 : (60 : Int) ≤ (ll.length : Int) := by have := HLEN.out; omega
      go_wp2_with fail
      clear hlen ss
      go_loopw [9] (fun i wr => BackInv w lb mb pl ll i wr) (fun i _ => (intOf i).toNat)
      case atStart => exact I3.out
      case round =>
        obtain ⟨q, pops, S, rfl, h60, hqm, L, s, hS, hm, hmw, B⟩ := id hrel
        have LL := Lib.hid L; have SS := Lib.hid s; have HS := Lib.hid hS; have HM := Lib.hid hm; have BB := Lib.hid B; have HR := Lib.hid hrel; have HQ := Lib.hid hqm
        have hml := isSet_lt s
        clear L s hS hm B hrel hqm
        by_cases hlt : 0 < q.length
        · have hpl := place_lt pl pops q.length hlt
          have pop1 := pop_any LL.out hlt (by omega) (by omega) (by omega) (fun x hx => HW.out x (HQ.out x hx))
          generalize place pl pops q.length = at_ at *
          have hxm : q.getD at_ 0 ∈ q := by rw [List.getD_eq_getElem?_getD, List.getElem?_eq_getElem hpl]; exact List.getElem_mem hpl
          have hx := HW.out _ (HQ.out _ hxm)
          have hel := List.length_eraseIdx_of_lt hpl
          generalize hxx : q.getD at_ 0 = x at *
          have HX := Lib.hid hxx; have PP := Lib.hid pop1; have HXM := Lib.hid hxm
          clear hxx pop1 hxm
          go_wp2_with fail
          refine PP.out.mono ?_
          rintro e w3 ⟨rfl, L3, F3⟩
          have s3 := isSet_move SS.out (F3.block mb hml HM.out)
          have lk3 := isSet_look s3 x hx
          rw [decide_eq_true HXM.out] at lk3
          have len3 : Calls Try.prog 11 #[.pointer (some ⟨lb, 0, none⟩)] w3 fun e w' => e = .returned (.int .i64 ((q.length : Int) - 1)) ∧ w3 = w' :=
            (len_any L3).mono fun e w' h => ⟨by rw [h.1, hel]; congr 2; omega, h.2⟩
          have L33 := Lib.hid L3; have F33 := Lib.hid F3; have S3 := Lib.hid s3; have N3 := Lib.hid len3; have HEL := Lib.hid hel
          clear L3 F3 s3 len3 hel
          go_wp2_with fail
          refine N3.out.mono ?_
          rintro e w' ⟨rfl, rfl⟩
          go_wp2_with (first
            | (at_delete; refine wpList_set_drop _ rfl _ _ rfl mb q x rfl S3.out rfl hx LL.out.nodup ?_; intro w4 s4 g4 z4; have S4 := Lib.hid s4; have G4 := Lib.hid g4; have Z4 := Lib.hid z4; clear s4 g4 z4)
            | go_in)
          go_roundw
          case rel =>
            have s4 := S4.out
            have nd := LL.out.nodup
            rw [← HX.out] at s4
            exact back_next hpl h60 HQ.out HS.out HM.out hmw BB.out L33.out F33.out nd s4 G4.out Z4.out
          case measure => simp [intOf]; omega
        · obtain rfl : q = [] := List.eq_nil_of_length_eq_zero (by omega)
          go_wp2_with fail
          refine (pop_empty LL.out).mono ?_
          rintro e w' ⟨rfl, rfl⟩
          go_wp2_with fail
          go_ret
          exact ⟨rfl, BB.out⟩

theorem workTurned_any (pA : Option Addr) (pn pc : Nat) (picks : List Int) (A : Option Addr) (n c : Nat) (l : List Int) (w : World) (hp : Reads w (.slice pA pn pc) picks) (h : Reads w (.slice A n c) l) :
    Calls Try.prog 5 #[.slice pA pn pc, .slice A n c] w fun e w' => e = .returned (.bool true) ∧ Below w.heap.size w w' := by
  by_cases hp' : pn ≤ 100
  · by_cases hn : n ≤ 60
    · exact workTurned_ss pA pn pc picks A n c l w hp h hp' hn
    · exact workTurned_sg pA pn pc picks A n c l w hp h hp' (by omega)
  · by_cases hn : n ≤ 60
    · exact workTurned_gs pA pn pc picks A n c l w hp h (by omega) hn
    · exact workTurned_gg pA pn pc picks A n c l w hp h (by omega) (by omega)

end Go.Proofs.Ytkgjfkeaiiigfaa
