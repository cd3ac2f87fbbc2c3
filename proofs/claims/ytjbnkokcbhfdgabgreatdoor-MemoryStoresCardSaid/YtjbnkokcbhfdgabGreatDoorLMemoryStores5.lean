/- Tables of calls, and a run that uses them. -/
import Derived.Test.YtjbnkokcbhfdgabGreatDoorLn22
namespace Go.Proofs.YtjbnkokcbhfdgabGreatDoor
open Go Go.RowKit Ev
set_option maxRecDepth 100000
set_option linter.unusedVariables false
private noncomputable abbrev i (n : Nat) : CV := .int .i64 (.ofNat n)
private noncomputable abbrev o (b a n : Nat) : CV := .slice b a n (.opn 0)
private noncomputable abbrev f (b a n : Nat) : CV := .slice b a n (.fix n)
private noncomputable abbrev e (k t : Nat) : Nat × BK := (k, ⟨[.snil], t, 0, none⟩)
private noncomputable abbrev l0 : Bls := [(0, ⟨[.snil, i 0, i 0], 89, 0, none⟩),
(3, ⟨[o 21 0 7, i 3, i 0, i 0, i 0], 41, 0, none⟩),
(4, ⟨[i 0, o 9 0 2, f 3 0 1], 38, 0, none⟩),
(5, ⟨[f 7 0 1, f 0 0 1, .snil, .snil, f 4 0 1, i 0], 34, 0, none⟩),
(6, ⟨[i 0, i 0, i 0, i 0], 26, 0, none⟩),
(7, ⟨[f 6 0 2], 27, 0, none⟩),
(9, ⟨[i 0, i 0, i 1, i 0], 26, 2, none⟩),
(21, ⟨[i 1, i 0, i 0, i 0, i 7, .snil, i 5, i 1, i 0, i 0, i 0, .snil, i 8, i 0, i 1, i 0, i 0, .snil, i 8, i 0, i 1, i 0, i 1, .snil, i 8, i 0, i 1, i 0, i 0, .snil, i 8, i 0, i 1, i 0, i 1, .snil, i 8, i 0, i 1, i 0, i 0, .snil], 44, 6, none⟩)]
private noncomputable abbrev l1 : Bls := [(22, ⟨[o 30 0 1, o 34 0 1, o 71 0 1, o 62 0 1, o 64 0 1, i 5], 150, 0, none⟩),
(28, ⟨[i 0, i 1], 3, 1, none⟩),
(30, ⟨[o 28 0 2], 42, 1, none⟩),
(34, ⟨[i 2], 3, 1, none⟩),
(62, ⟨[i 1], 3, 1, none⟩),
(64, ⟨[i 0], 3, 1, none⟩),
(69, ⟨[i 3, i 4], 3, 1, none⟩),
(71, ⟨[o 69 0 2], 42, 1, none⟩),
(102, ⟨[o 112 0 5], 157, 0, none⟩),
(112, ⟨[i 0, i 1, i 2, i 3, i 4], 3, 1, none⟩),
(113, ⟨[.snil, .snil, .snil, .snil, .snil], 162, 0, none⟩),
(114, ⟨[o 165 0 1], 99, 0, none⟩),
(115, ⟨[], 0, 0, some (.map [] 0)⟩),
(116, ⟨[], 0, 0, some (.map [] 1)⟩),
(117, ⟨[.snil, o 340 0 0, .map 116, i 1], 161, 0, none⟩),
(118, ⟨[.ptr 5 0, .ptr 22 0, .ptr 102 0, o 157 0 5, o 160 0 5, o 163 0 5, f 113 0 5, .ptr 114 0, .map 115, .ptr 117 0], 105, 0, none⟩),
e 119 99,
e 122 99,
e 125 99,
(128, ⟨[o 338 0 1], 99, 0, none⟩),
e 134 99,
e 137 99,
e 140 99,
e 143 99,
e 146 99,
e 149 99,
e 152 99,
e 155 99,
(157, ⟨[.ptr 119 0, .ptr 128 0, .ptr 137 0, .ptr 146 0, .ptr 155 0], 96, 1, none⟩),
e 158 99,
(160, ⟨[.ptr 122 0, .ptr 402 0, .ptr 140 0, .ptr 149 0, .ptr 158 0], 96, 1, none⟩),
e 161 99,
(163, ⟨[.ptr 125 0, .ptr 134 0, .ptr 143 0, .ptr 152 0, .ptr 161 0], 96, 1, none⟩),
(165, ⟨[.int .u64 (.ofNat 1)], 229, 1, none⟩),
(338, ⟨[.int .u64 (.ofNat 1)], 229, 1, none⟩),
(340, ⟨[i 0], 3, 1, none⟩),
(401, ⟨[.int .u64 (.ofNat 1)], 229, 1, none⟩),
(402, ⟨[o 401 0 1], 99, 0, none⟩)]
private noncomputable abbrev l2 : Bls := [(405, ⟨[.ptr 5 0, .ptr 118 0, o 635 0 8, o 457 0 1], 178, 0, none⟩),
(408, ⟨[i 0, f 410 0 8], 258, 0, none⟩),
(410, ⟨[.snil, o 416 0 1, o 422 0 1, o 428 0 1, o 434 0 1, o 440 0 1, o 446 0 1, o 452 0 1], 42, 0, none⟩),
(416, ⟨[i 0], 3, 1, none⟩),
(422, ⟨[i 1], 3, 1, none⟩),
(428, ⟨[i 2], 3, 1, none⟩),
(434, ⟨[i 3], 3, 1, none⟩),
(440, ⟨[i 4], 3, 1, none⟩),
(446, ⟨[i 5], 3, 1, none⟩),
(452, ⟨[i 6], 3, 1, none⟩),
(457, ⟨[.ptr 408 0], 179, 1, none⟩),
(475, ⟨[], 0, 0, some (.map [] 0)⟩),
(488, ⟨[], 0, 0, some (.map [(0, .agg [i 1, i 0], .c (.bool true)), (1, .agg [i 1, i 1], .c (.bool true))] 2)⟩),
(510, ⟨[], 0, 0, some (.map [(0, .agg [i 1, i 0], .c (.bool true))] 1)⟩),
(533, ⟨[], 0, 0, some (.map [(0, .agg [i 1, i 1], .c (.bool true))] 1)⟩),
(556, ⟨[], 0, 0, some (.map [(0, .agg [i 1, i 0], .c (.bool true))] 1)⟩),
(579, ⟨[], 0, 0, some (.map [(0, .agg [i 1, i 1], .c (.bool true))] 1)⟩),
(602, ⟨[], 0, 0, some (.map [(0, .agg [i 1, i 0], .c (.bool true))] 1)⟩),
(625, ⟨[], 0, 0, some (.map [] 0)⟩),
(635, ⟨[.map 475, .map 488, .map 510, .map 533, .map 556, .map 579, .map 602, .map 625], 181, 1, none⟩)]
private noncomputable abbrev l3 : Bls := [(0, ⟨[.snil, i 0, i 0], 89, 0, none⟩),
(3, ⟨[o 21 0 7, i 3, i 0, i 0, i 0], 41, 0, none⟩),
(4, ⟨[i 0, o 9 0 2, f 3 0 1], 38, 0, none⟩),
(5, ⟨[f 7 0 1, f 0 0 1, .snil, .snil, f 4 0 1, i 0], 34, 0, none⟩),
(6, ⟨[i 0, i 0, i 0, i 0], 26, 0, none⟩),
(7, ⟨[f 6 0 2], 27, 0, none⟩),
(9, ⟨[i 0, i 0, i 1, i 0], 26, 2, none⟩),
(21, ⟨[i 1, i 0, i 0, i 0, i 7, .snil, i 5, i 1, i 0, i 0, i 0, .snil, i 8, i 0, i 1, i 0, i 0, .snil, i 8, i 0, i 1, i 0, i 1, .snil, i 8, i 0, i 1, i 0, i 0, .snil, i 8, i 0, i 1, i 0, i 1, .snil, i 8, i 0, i 1, i 0, i 0, .snil], 44, 6, none⟩),
(22, ⟨[o 30 0 1, o 34 0 1, o 71 0 1, o 62 0 1, o 64 0 1, i 5], 150, 0, none⟩),
(28, ⟨[i 0, i 1], 3, 1, none⟩),
(30, ⟨[o 28 0 2], 42, 1, none⟩),
(34, ⟨[i 2], 3, 1, none⟩),
(62, ⟨[i 1], 3, 1, none⟩),
(64, ⟨[i 0], 3, 1, none⟩),
(69, ⟨[i 3, i 4], 3, 1, none⟩),
(71, ⟨[o 69 0 2], 42, 1, none⟩),
(102, ⟨[o 112 0 5], 157, 0, none⟩),
(112, ⟨[i 0, i 1, i 2, i 3, i 4], 3, 1, none⟩),
(113, ⟨[.snil, .snil, .snil, .snil, .snil], 162, 0, none⟩),
(114, ⟨[o 165 0 1], 99, 0, none⟩),
(115, ⟨[], 0, 0, some (.map [] 0)⟩),
(116, ⟨[], 0, 0, some (.map [] 1)⟩),
(117, ⟨[.snil, o 340 0 0, .map 116, i 1], 161, 0, none⟩),
(118, ⟨[.ptr 5 0, .ptr 22 0, .ptr 102 0, o 157 0 5, o 160 0 5, o 163 0 5, f 113 0 5, .ptr 114 0, .map 115, .ptr 117 0], 105, 0, none⟩),
e 119 99,
e 122 99,
e 125 99,
(128, ⟨[o 338 0 1], 99, 0, none⟩),
e 134 99,
e 137 99,
e 140 99,
e 143 99,
e 146 99,
e 149 99,
e 152 99,
e 155 99,
(157, ⟨[.ptr 119 0, .ptr 128 0, .ptr 137 0, .ptr 146 0, .ptr 155 0], 96, 1, none⟩),
e 158 99,
(160, ⟨[.ptr 122 0, .ptr 402 0, .ptr 140 0, .ptr 149 0, .ptr 158 0], 96, 1, none⟩),
e 161 99,
(163, ⟨[.ptr 125 0, .ptr 134 0, .ptr 143 0, .ptr 152 0, .ptr 161 0], 96, 1, none⟩),
(165, ⟨[.int .u64 (.ofNat 1)], 229, 1, none⟩),
(338, ⟨[.int .u64 (.ofNat 1)], 229, 1, none⟩),
(340, ⟨[i 0], 3, 1, none⟩),
(401, ⟨[.int .u64 (.ofNat 1)], 229, 1, none⟩),
(402, ⟨[o 401 0 1], 99, 0, none⟩)]
private noncomputable def m0 : MM := ⟨[56], l0, 22, [⟨56, 0, [.v (.c (.ptr 5 0))], .v (.c (.nili))⟩]⟩
private theorem m0_k : H0.tbl m0 = true := by kernel_rfl
private noncomputable def h1 : HK := H0.memo m0 m0_k
private noncomputable def m1 : MM := ⟨[91], [(3, ⟨[o 21 0 7, i 3, i 0, i 0, i 0], 41, 0, none⟩),
(4, ⟨[i 0, o 9 0 2, f 3 0 1], 38, 0, none⟩),
(5, ⟨[f 7 0 1, f 0 0 1, .snil, .snil, f 4 0 1, i 0], 34, 0, none⟩)], 53, [⟨91, 0, [.v (.c (.ptr 5 0)), .v (.c (i 0))], .tup [.agg [i 0, i 0, i 0], .c (.bool true)]⟩,
⟨91, 1, [.v (.c (.ptr 5 0)), .v (.c (i 1))], .tup [.agg [i 0, i 0, i 1], .c (.bool true)]⟩,
⟨91, 2, [.v (.c (.ptr 5 0)), .v (.c (i 2))], .tup [.agg [i 0, i 0, i 2], .c (.bool true)]⟩,
⟨91, 3, [.v (.c (.ptr 5 0)), .v (.c (i 3))], .tup [.agg [i 0, i 0, i 3], .c (.bool true)]⟩,
⟨91, 4, [.v (.c (.ptr 5 0)), .v (.c (i 4))], .tup [.agg [i 0, i 0, i 4], .c (.bool true)]⟩,
⟨91, 5, [.v (.c (.ptr 5 0)), .v (.c (i 5))], .tup [.agg [i 0, i 0, i 5], .c (.bool true)]⟩,
⟨91, 6, [.v (.c (.ptr 5 0)), .v (.c (i 6))], .tup [.agg [i 0, i 0, i 6], .c (.bool true)]⟩,
⟨91, 7, [.v (.c (.ptr 5 0)), .v (.c (i 7))], .tup [.agg [i 0, i 0, i 7], .c (.bool true)]⟩]⟩
private theorem m1_k : h1.tbl m1 = true := by kernel_rfl
private noncomputable def h2 : HK := h1.memo m1 m1_k
private noncomputable def s1 : RE := ⟨35, [.v (.c (.ptr 5 0))], 22, .v (.c (.ptr 22 0)), [(22, ⟨[o 30 0 1, o 34 0 1, o 71 0 1, o 62 0 1, o 64 0 1, i 5], 150, 0, none⟩),
(28, ⟨[i 0, i 1], 3, 1, none⟩),
(30, ⟨[o 28 0 2], 42, 1, none⟩),
(34, ⟨[i 2], 3, 1, none⟩),
(62, ⟨[i 1], 3, 1, none⟩),
(64, ⟨[i 0], 3, 1, none⟩),
(69, ⟨[i 3, i 4], 3, 1, none⟩),
(71, ⟨[o 69 0 2], 42, 1, none⟩)], 102⟩
private theorem s1_k : h2.srp l0 s1 = true := by kernel_rfl
private noncomputable def h3 : HK := h2.srep _ s1 s1_k
private noncomputable def s2 : RE := ⟨9, [.v (.c (.ptr 5 0)), .v (.c (.snil))], 22, .v (.c (.ptr 118 0)), l1, 403⟩
private theorem s2_k : h3.rep l0 s2 = true := by kernel_rfl
private noncomputable def h4 : HK := h3.repl _ s2 s2_k
private noncomputable def s3 : RE := ⟨43, [.v (.c (.ptr 5 0)), .v (.c (.ptr 118 0))], 405, .v (.c (.ptr 405 0)), l2, 636⟩
private theorem s3_k : h4.srp l3 s3 = true := by kernel_rfl
private noncomputable def h5 : HK := h4.srep _ s3 s3_k
private noncomputable def s4 : RE := ⟨11, [.v (.c (.ptr 5 0)), .v (.c (.ptr 118 0)), .v (.c (i 0))], 889, .v (.c (o 1011 0 2)), [(1011, ⟨[i 1, i 0, i 1, i 1, i 0, i 0, i 0, i 0, i 0, i 0, i 0, i 0, i 0, i 0], 48, 2, none⟩)], 1129⟩
private theorem s4_k : h5.srp l3 s4 = true := by kernel_rfl
private noncomputable def h6 : HK := h5.srep _ s4 s4_k
theorem MemoryStores_5_0_run : isBool true (runW h6.K 3 [ai (Int.ofNat 5), ai (Int.ofNat 0)] s0) = true := by kernel_rfl
theorem MemoryStores_5_0_law {args : Array Value} (ha : VAs (fun _ => none) [ai (Int.ofNat 5), ai (Int.ofNat 0)] args.toList) (w : World) (hT : Tab w) :
    Calls Tryz.prog 3 args w fun e w' => Below w.heap.size w w' ∧ e = .returned (.bool true) := h6.law MemoryStores_5_0_run ha w hT
theorem MemoryStores_5_1_run : isBool true (runW h6.K 3 [ai (Int.ofNat 5), ai (Int.ofNat 1)] s0) = true := by kernel_rfl
theorem MemoryStores_5_1_law {args : Array Value} (ha : VAs (fun _ => none) [ai (Int.ofNat 5), ai (Int.ofNat 1)] args.toList) (w : World) (hT : Tab w) :
    Calls Tryz.prog 3 args w fun e w' => Below w.heap.size w w' ∧ e = .returned (.bool true) := h6.law MemoryStores_5_1_run ha w hT
theorem MemoryStores_5_2_run : isBool true (runW h6.K 3 [ai (Int.ofNat 5), ai (Int.ofNat 2)] s0) = true := by kernel_rfl
theorem MemoryStores_5_2_law {args : Array Value} (ha : VAs (fun _ => none) [ai (Int.ofNat 5), ai (Int.ofNat 2)] args.toList) (w : World) (hT : Tab w) :
    Calls Tryz.prog 3 args w fun e w' => Below w.heap.size w w' ∧ e = .returned (.bool true) := h6.law MemoryStores_5_2_run ha w hT
theorem MemoryStores_5_3_run : isBool true (runW h6.K 3 [ai (Int.ofNat 5), ai (Int.ofNat 3)] s0) = true := by kernel_rfl
theorem MemoryStores_5_3_law {args : Array Value} (ha : VAs (fun _ => none) [ai (Int.ofNat 5), ai (Int.ofNat 3)] args.toList) (w : World) (hT : Tab w) :
    Calls Tryz.prog 3 args w fun e w' => Below w.heap.size w w' ∧ e = .returned (.bool true) := h6.law MemoryStores_5_3_run ha w hT
theorem MemoryStores_5_4_run : isBool true (runW h6.K 3 [ai (Int.ofNat 5), ai (Int.ofNat 4)] s0) = true := by kernel_rfl
theorem MemoryStores_5_4_law {args : Array Value} (ha : VAs (fun _ => none) [ai (Int.ofNat 5), ai (Int.ofNat 4)] args.toList) (w : World) (hT : Tab w) :
    Calls Tryz.prog 3 args w fun e w' => Below w.heap.size w w' ∧ e = .returned (.bool true) := h6.law MemoryStores_5_4_run ha w hT
theorem MemoryStores_5_5_run : isBool true (runW h6.K 3 [ai (Int.ofNat 5), ai (Int.ofNat 5)] s0) = true := by kernel_rfl
theorem MemoryStores_5_5_law {args : Array Value} (ha : VAs (fun _ => none) [ai (Int.ofNat 5), ai (Int.ofNat 5)] args.toList) (w : World) (hT : Tab w) :
    Calls Tryz.prog 3 args w fun e w' => Below w.heap.size w w' ∧ e = .returned (.bool true) := h6.law MemoryStores_5_5_run ha w hT
theorem MemoryStores_5_neg (j : Nat) : isBool true (runW hkT 3 [ai (Int.ofNat 5), ai (Int.negSucc j)] s0) = true := by kernel_rfl
theorem MemoryStores_5_big (j : Nat) : isBool true (runW hkT 3 [ai (Int.ofNat 5), ai (Int.ofNat (j + 6))] s0) = true := by kernel_rfl
theorem MemoryStores_5_all (w : World) (hT : Tab w) (m : Int) : Calls Tryz.prog 3 #[.int .i64 (Int.ofNat 5), .int .i64 m] w fun e w' => Below w.heap.size w w' ∧ e = .returned (.bool true) := by
  rcases m with m | k
  · by_cases h : 6 ≤ m
    · obtain ⟨k, rfl⟩ : ∃ k, m = k + 6 := ⟨m - 6, by omega⟩
      exact lawT (MemoryStores_5_big k) (by exact ⟨rfl, rfl, trivial⟩) w hT
    · rcases (by omega : m = 0 ∨ m = 1 ∨ m = 2 ∨ m = 3 ∨ m = 4 ∨ m = 5) with rfl | rfl | rfl | rfl | rfl | rfl
      · exact MemoryStores_5_0_law (by exact ⟨rfl, rfl, trivial⟩) w hT
      · exact MemoryStores_5_1_law (by exact ⟨rfl, rfl, trivial⟩) w hT
      · exact MemoryStores_5_2_law (by exact ⟨rfl, rfl, trivial⟩) w hT
      · exact MemoryStores_5_3_law (by exact ⟨rfl, rfl, trivial⟩) w hT
      · exact MemoryStores_5_4_law (by exact ⟨rfl, rfl, trivial⟩) w hT
      · exact MemoryStores_5_5_law (by exact ⟨rfl, rfl, trivial⟩) w hT
  · exact lawT (MemoryStores_5_neg k) (by exact ⟨rfl, rfl, trivial⟩) w hT
end Go.Proofs.YtjbnkokcbhfdgabGreatDoor
