/- Tables of calls, and a run that uses them. -/
import Derived.Test.YtjbnkokcbhfdgabGreatDoorLn22
namespace Go.Proofs.YtjbnkokcbhfdgabGreatDoor
open Go Go.RowKit Ev
set_option maxRecDepth 100000
set_option linter.unusedVariables false
private noncomputable abbrev i (n : Nat) : CV := .int .i64 (.ofNat n)
private noncomputable abbrev o (b a n : Nat) : CV := .slice b a n (.opn 0)
private noncomputable abbrev f (b a n : Nat) : CV := .slice b a n (.fix n)
private noncomputable abbrev e (k t : Nat) : Nat × BK := (k, ⟨[.snil], t, 0, none⟩)
private noncomputable abbrev l0 : Bls := [(0, ⟨[.snil, i 0, i 0], 89, 0, none⟩),
(3, ⟨[o 25 0 9, i 3, i 0, i 0, i 0], 41, 0, none⟩),
(4, ⟨[i 0, o 9 0 2, f 3 0 1], 38, 0, none⟩),
(5, ⟨[f 7 0 1, f 0 0 1, .snil, .snil, f 4 0 1, i 0], 34, 0, none⟩),
(6, ⟨[i 0, i 0, i 0, i 0], 26, 0, none⟩),
(7, ⟨[f 6 0 2], 27, 0, none⟩),
(9, ⟨[i 0, i 0, i 1, i 0], 26, 2, none⟩),
(25, ⟨[i 1, i 0, i 0, i 0, i 7, .snil, i 5, i 1, i 0, i 0, i 0, .snil, i 8, i 0, i 1, i 0, i 0, .snil, i 8, i 0, i 1, i 0, i 1, .snil, i 8, i 0, i 1, i 0, i 0, .snil, i 8, i 0, i 1, i 0, i 1, .snil, i 8, i 0, i 1, i 0, i 0, .snil, i 8, i 0, i 1, i 0, i 1, .snil, i 8, i 0, i 1, i 0, i 0, .snil], 44, 6, none⟩)]
private noncomputable abbrev l1 : Bls := [(26, ⟨[o 34 0 1, o 38 0 1, o 79 0 1, o 70 0 1, o 72 0 1, i 5], 150, 0, none⟩),
(32, ⟨[i 0, i 1], 3, 1, none⟩),
(34, ⟨[o 32 0 2], 42, 1, none⟩),
(38, ⟨[i 2], 3, 1, none⟩),
(70, ⟨[i 1], 3, 1, none⟩),
(72, ⟨[i 0], 3, 1, none⟩),
(77, ⟨[i 3, i 4], 3, 1, none⟩),
(79, ⟨[o 77 0 2], 42, 1, none⟩),
(120, ⟨[o 130 0 5], 157, 0, none⟩),
(130, ⟨[i 0, i 1, i 2, i 3, i 4], 3, 1, none⟩),
(131, ⟨[.snil, .snil, .snil, .snil, .snil], 162, 0, none⟩),
(132, ⟨[o 183 0 1], 99, 0, none⟩),
(133, ⟨[], 0, 0, some (.map [] 0)⟩),
(134, ⟨[], 0, 0, some (.map [] 1)⟩),
(135, ⟨[.snil, o 392 0 0, .map 134, i 1], 161, 0, none⟩),
(136, ⟨[.ptr 5 0, .ptr 26 0, .ptr 120 0, o 175 0 5, o 178 0 5, o 181 0 5, f 131 0 5, .ptr 132 0, .map 133, .ptr 135 0], 105, 0, none⟩),
e 137 99,
e 140 99,
e 143 99,
(146, ⟨[o 390 0 1], 99, 0, none⟩),
e 152 99,
e 155 99,
e 158 99,
e 161 99,
e 164 99,
e 167 99,
e 170 99,
e 173 99,
(175, ⟨[.ptr 137 0, .ptr 146 0, .ptr 155 0, .ptr 164 0, .ptr 173 0], 96, 1, none⟩),
e 176 99,
(178, ⟨[.ptr 140 0, .ptr 468 0, .ptr 158 0, .ptr 167 0, .ptr 176 0], 96, 1, none⟩),
e 179 99,
(181, ⟨[.ptr 143 0, .ptr 152 0, .ptr 161 0, .ptr 170 0, .ptr 179 0], 96, 1, none⟩),
(183, ⟨[.int .u64 (.ofNat 1)], 229, 1, none⟩),
(390, ⟨[.int .u64 (.ofNat 1)], 229, 1, none⟩),
(392, ⟨[i 0], 3, 1, none⟩),
(467, ⟨[.int .u64 (.ofNat 1)], 229, 1, none⟩),
(468, ⟨[o 467 0 1], 99, 0, none⟩)]
private noncomputable abbrev l2 : Bls := [(471, ⟨[.ptr 5 0, .ptr 136 0, o 763 0 10, o 535 0 1], 178, 0, none⟩),
(474, ⟨[i 0, f 476 0 10], 258, 0, none⟩),
(476, ⟨[.snil, o 482 0 1, o 488 0 1, o 494 0 1, o 500 0 1, o 506 0 1, o 512 0 1, o 518 0 1, o 524 0 1, o 530 0 1], 42, 0, none⟩),
(482, ⟨[i 0], 3, 1, none⟩),
(488, ⟨[i 1], 3, 1, none⟩),
(494, ⟨[i 2], 3, 1, none⟩),
(500, ⟨[i 3], 3, 1, none⟩),
(506, ⟨[i 4], 3, 1, none⟩),
(512, ⟨[i 5], 3, 1, none⟩),
(518, ⟨[i 6], 3, 1, none⟩),
(524, ⟨[i 7], 3, 1, none⟩),
(530, ⟨[i 8], 3, 1, none⟩),
(535, ⟨[.ptr 474 0], 179, 1, none⟩),
(557, ⟨[], 0, 0, some (.map [] 0)⟩),
(570, ⟨[], 0, 0, some (.map [(0, .agg [i 1, i 0], .c (.bool true)), (1, .agg [i 1, i 1], .c (.bool true))] 2)⟩),
(592, ⟨[], 0, 0, some (.map [(0, .agg [i 1, i 0], .c (.bool true))] 1)⟩),
(615, ⟨[], 0, 0, some (.map [(0, .agg [i 1, i 1], .c (.bool true))] 1)⟩),
(638, ⟨[], 0, 0, some (.map [(0, .agg [i 1, i 0], .c (.bool true))] 1)⟩),
(661, ⟨[], 0, 0, some (.map [(0, .agg [i 1, i 1], .c (.bool true))] 1)⟩),
(684, ⟨[], 0, 0, some (.map [(0, .agg [i 1, i 0], .c (.bool true))] 1)⟩),
(707, ⟨[], 0, 0, some (.map [(0, .agg [i 1, i 1], .c (.bool true))] 1)⟩),
(730, ⟨[], 0, 0, some (.map [(0, .agg [i 1, i 0], .c (.bool true))] 1)⟩),
(753, ⟨[], 0, 0, some (.map [] 0)⟩),
(763, ⟨[.map 557, .map 570, .map 592, .map 615, .map 638, .map 661, .map 684, .map 707, .map 730, .map 753], 181, 1, none⟩)]
private noncomputable abbrev l3 : Bls := [(0, ⟨[.snil, i 0, i 0], 89, 0, none⟩),
(3, ⟨[o 25 0 9, i 3, i 0, i 0, i 0], 41, 0, none⟩),
(4, ⟨[i 0, o 9 0 2, f 3 0 1], 38, 0, none⟩),
(5, ⟨[f 7 0 1, f 0 0 1, .snil, .snil, f 4 0 1, i 0], 34, 0, none⟩),
(6, ⟨[i 0, i 0, i 0, i 0], 26, 0, none⟩),
(7, ⟨[f 6 0 2], 27, 0, none⟩),
(9, ⟨[i 0, i 0, i 1, i 0], 26, 2, none⟩),
(25, ⟨[i 1, i 0, i 0, i 0, i 7, .snil, i 5, i 1, i 0, i 0, i 0, .snil, i 8, i 0, i 1, i 0, i 0, .snil, i 8, i 0, i 1, i 0, i 1, .snil, i 8, i 0, i 1, i 0, i 0, .snil, i 8, i 0, i 1, i 0, i 1, .snil, i 8, i 0, i 1, i 0, i 0, .snil, i 8, i 0, i 1, i 0, i 1, .snil, i 8, i 0, i 1, i 0, i 0, .snil], 44, 6, none⟩),
(26, ⟨[o 34 0 1, o 38 0 1, o 79 0 1, o 70 0 1, o 72 0 1, i 5], 150, 0, none⟩),
(32, ⟨[i 0, i 1], 3, 1, none⟩),
(34, ⟨[o 32 0 2], 42, 1, none⟩),
(38, ⟨[i 2], 3, 1, none⟩),
(70, ⟨[i 1], 3, 1, none⟩),
(72, ⟨[i 0], 3, 1, none⟩),
(77, ⟨[i 3, i 4], 3, 1, none⟩),
(79, ⟨[o 77 0 2], 42, 1, none⟩),
(120, ⟨[o 130 0 5], 157, 0, none⟩),
(130, ⟨[i 0, i 1, i 2, i 3, i 4], 3, 1, none⟩),
(131, ⟨[.snil, .snil, .snil, .snil, .snil], 162, 0, none⟩),
(132, ⟨[o 183 0 1], 99, 0, none⟩),
(133, ⟨[], 0, 0, some (.map [] 0)⟩),
(134, ⟨[], 0, 0, some (.map [] 1)⟩),
(135, ⟨[.snil, o 392 0 0, .map 134, i 1], 161, 0, none⟩),
(136, ⟨[.ptr 5 0, .ptr 26 0, .ptr 120 0, o 175 0 5, o 178 0 5, o 181 0 5, f 131 0 5, .ptr 132 0, .map 133, .ptr 135 0], 105, 0, none⟩),
e 137 99,
e 140 99,
e 143 99,
(146, ⟨[o 390 0 1], 99, 0, none⟩),
e 152 99,
e 155 99,
e 158 99,
e 161 99,
e 164 99,
e 167 99,
e 170 99,
e 173 99,
(175, ⟨[.ptr 137 0, .ptr 146 0, .ptr 155 0, .ptr 164 0, .ptr 173 0], 96, 1, none⟩),
e 176 99,
(178, ⟨[.ptr 140 0, .ptr 468 0, .ptr 158 0, .ptr 167 0, .ptr 176 0], 96, 1, none⟩),
e 179 99,
(181, ⟨[.ptr 143 0, .ptr 152 0, .ptr 161 0, .ptr 170 0, .ptr 179 0], 96, 1, none⟩),
(183, ⟨[.int .u64 (.ofNat 1)], 229, 1, none⟩),
(390, ⟨[.int .u64 (.ofNat 1)], 229, 1, none⟩),
(392, ⟨[i 0], 3, 1, none⟩),
(467, ⟨[.int .u64 (.ofNat 1)], 229, 1, none⟩),
(468, ⟨[o 467 0 1], 99, 0, none⟩)]
private noncomputable def m0 : MM := ⟨[56], l0, 26, [⟨56, 0, [.v (.c (.ptr 5 0))], .v (.c (.nili))⟩]⟩
private theorem m0_k : H0.tbl m0 = true := by kernel_rfl
private noncomputable def h1 : HK := H0.memo m0 m0_k
private noncomputable def m1 : MM := ⟨[91], [(3, ⟨[o 25 0 9, i 3, i 0, i 0, i 0], 41, 0, none⟩),
(4, ⟨[i 0, o 9 0 2, f 3 0 1], 38, 0, none⟩),
(5, ⟨[f 7 0 1, f 0 0 1, .snil, .snil, f 4 0 1, i 0], 34, 0, none⟩)], 61, [⟨91, 0, [.v (.c (.ptr 5 0)), .v (.c (i 0))], .tup [.agg [i 0, i 0, i 0], .c (.bool true)]⟩,
⟨91, 1, [.v (.c (.ptr 5 0)), .v (.c (i 1))], .tup [.agg [i 0, i 0, i 1], .c (.bool true)]⟩,
⟨91, 2, [.v (.c (.ptr 5 0)), .v (.c (i 2))], .tup [.agg [i 0, i 0, i 2], .c (.bool true)]⟩,
⟨91, 3, [.v (.c (.ptr 5 0)), .v (.c (i 3))], .tup [.agg [i 0, i 0, i 3], .c (.bool true)]⟩,
⟨91, 4, [.v (.c (.ptr 5 0)), .v (.c (i 4))], .tup [.agg [i 0, i 0, i 4], .c (.bool true)]⟩,
⟨91, 5, [.v (.c (.ptr 5 0)), .v (.c (i 5))], .tup [.agg [i 0, i 0, i 5], .c (.bool true)]⟩,
⟨91, 6, [.v (.c (.ptr 5 0)), .v (.c (i 6))], .tup [.agg [i 0, i 0, i 6], .c (.bool true)]⟩,
⟨91, 7, [.v (.c (.ptr 5 0)), .v (.c (i 7))], .tup [.agg [i 0, i 0, i 7], .c (.bool true)]⟩,
⟨91, 8, [.v (.c (.ptr 5 0)), .v (.c (i 8))], .tup [.agg [i 0, i 0, i 8], .c (.bool true)]⟩,
⟨91, 9, [.v (.c (.ptr 5 0)), .v (.c (i 9))], .tup [.agg [i 0, i 0, i 9], .c (.bool true)]⟩]⟩
private theorem m1_k : h1.tbl m1 = true := by kernel_rfl
private noncomputable def h2 : HK := h1.memo m1 m1_k
private noncomputable def s1 : RE := ⟨35, [.v (.c (.ptr 5 0))], 26, .v (.c (.ptr 26 0)), [(26, ⟨[o 34 0 1, o 38 0 1, o 79 0 1, o 70 0 1, o 72 0 1, i 5], 150, 0, none⟩),
(32, ⟨[i 0, i 1], 3, 1, none⟩),
(34, ⟨[o 32 0 2], 42, 1, none⟩),
(38, ⟨[i 2], 3, 1, none⟩),
(70, ⟨[i 1], 3, 1, none⟩),
(72, ⟨[i 0], 3, 1, none⟩),
(77, ⟨[i 3, i 4], 3, 1, none⟩),
(79, ⟨[o 77 0 2], 42, 1, none⟩)], 120⟩
private theorem s1_k : h2.srp l0 s1 = true := by kernel_rfl
private noncomputable def h3 : HK := h2.srep _ s1 s1_k
private noncomputable def s2 : RE := ⟨9, [.v (.c (.ptr 5 0)), .v (.c (.snil))], 26, .v (.c (.ptr 136 0)), l1, 469⟩
private theorem s2_k : h3.rep l0 s2 = true := by kernel_rfl
private noncomputable def h4 : HK := h3.repl _ s2 s2_k
private noncomputable def s3 : RE := ⟨43, [.v (.c (.ptr 5 0)), .v (.c (.ptr 136 0))], 471, .v (.c (.ptr 471 0)), l2, 764⟩
private theorem s3_k : h4.srp l3 s3 = true := by kernel_rfl
private noncomputable def h5 : HK := h4.srep _ s3 s3_k
private noncomputable def s4 : RE := ⟨11, [.v (.c (.ptr 5 0)), .v (.c (.ptr 136 0)), .v (.c (i 0))], 1079, .v (.c (o 1235 0 2)), [(1235, ⟨[i 1, i 0, i 1, i 1, i 0, i 0, i 0, i 0, i 0, i 0, i 0, i 0, i 0, i 0, i 0, i 0, i 0, i 0], 48, 2, none⟩)], 1385⟩
private theorem s4_k : h5.srp l3 s4 = true := by kernel_rfl
private noncomputable def h6 : HK := h5.srep _ s4 s4_k
theorem MemoryStores_7_0_run : isBool true (runW h6.K 3 [ai (Int.ofNat 7), ai (Int.ofNat 0)] s0) = true := by kernel_rfl
theorem MemoryStores_7_0_law {args : Array Value} (ha : VAs (fun _ => none) [ai (Int.ofNat 7), ai (Int.ofNat 0)] args.toList) (w : World) (hT : Tab w) :
    Calls Tryz.prog 3 args w fun e w' => Below w.heap.size w w' ∧ e = .returned (.bool true) := h6.law MemoryStores_7_0_run ha w hT
theorem MemoryStores_7_1_run : isBool true (runW h6.K 3 [ai (Int.ofNat 7), ai (Int.ofNat 1)] s0) = true := by kernel_rfl
theorem MemoryStores_7_1_law {args : Array Value} (ha : VAs (fun _ => none) [ai (Int.ofNat 7), ai (Int.ofNat 1)] args.toList) (w : World) (hT : Tab w) :
    Calls Tryz.prog 3 args w fun e w' => Below w.heap.size w w' ∧ e = .returned (.bool true) := h6.law MemoryStores_7_1_run ha w hT
theorem MemoryStores_7_2_run : isBool true (runW h6.K 3 [ai (Int.ofNat 7), ai (Int.ofNat 2)] s0) = true := by kernel_rfl
theorem MemoryStores_7_2_law {args : Array Value} (ha : VAs (fun _ => none) [ai (Int.ofNat 7), ai (Int.ofNat 2)] args.toList) (w : World) (hT : Tab w) :
    Calls Tryz.prog 3 args w fun e w' => Below w.heap.size w w' ∧ e = .returned (.bool true) := h6.law MemoryStores_7_2_run ha w hT
theorem MemoryStores_7_3_run : isBool true (runW h6.K 3 [ai (Int.ofNat 7), ai (Int.ofNat 3)] s0) = true := by kernel_rfl
theorem MemoryStores_7_3_law {args : Array Value} (ha : VAs (fun _ => none) [ai (Int.ofNat 7), ai (Int.ofNat 3)] args.toList) (w : World) (hT : Tab w) :
    Calls Tryz.prog 3 args w fun e w' => Below w.heap.size w w' ∧ e = .returned (.bool true) := h6.law MemoryStores_7_3_run ha w hT
theorem MemoryStores_7_4_run : isBool true (runW h6.K 3 [ai (Int.ofNat 7), ai (Int.ofNat 4)] s0) = true := by kernel_rfl
theorem MemoryStores_7_4_law {args : Array Value} (ha : VAs (fun _ => none) [ai (Int.ofNat 7), ai (Int.ofNat 4)] args.toList) (w : World) (hT : Tab w) :
    Calls Tryz.prog 3 args w fun e w' => Below w.heap.size w w' ∧ e = .returned (.bool true) := h6.law MemoryStores_7_4_run ha w hT
theorem MemoryStores_7_5_run : isBool true (runW h6.K 3 [ai (Int.ofNat 7), ai (Int.ofNat 5)] s0) = true := by kernel_rfl
theorem MemoryStores_7_5_law {args : Array Value} (ha : VAs (fun _ => none) [ai (Int.ofNat 7), ai (Int.ofNat 5)] args.toList) (w : World) (hT : Tab w) :
    Calls Tryz.prog 3 args w fun e w' => Below w.heap.size w w' ∧ e = .returned (.bool true) := h6.law MemoryStores_7_5_run ha w hT
theorem MemoryStores_7_6_run : isBool true (runW h6.K 3 [ai (Int.ofNat 7), ai (Int.ofNat 6)] s0) = true := by kernel_rfl
theorem MemoryStores_7_6_law {args : Array Value} (ha : VAs (fun _ => none) [ai (Int.ofNat 7), ai (Int.ofNat 6)] args.toList) (w : World) (hT : Tab w) :
    Calls Tryz.prog 3 args w fun e w' => Below w.heap.size w w' ∧ e = .returned (.bool true) := h6.law MemoryStores_7_6_run ha w hT
theorem MemoryStores_7_7_run : isBool true (runW h6.K 3 [ai (Int.ofNat 7), ai (Int.ofNat 7)] s0) = true := by kernel_rfl
theorem MemoryStores_7_7_law {args : Array Value} (ha : VAs (fun _ => none) [ai (Int.ofNat 7), ai (Int.ofNat 7)] args.toList) (w : World) (hT : Tab w) :
    Calls Tryz.prog 3 args w fun e w' => Below w.heap.size w w' ∧ e = .returned (.bool true) := h6.law MemoryStores_7_7_run ha w hT
theorem MemoryStores_7_neg (j : Nat) : isBool true (runW hkT 3 [ai (Int.ofNat 7), ai (Int.negSucc j)] s0) = true := by kernel_rfl
theorem MemoryStores_7_big (j : Nat) : isBool true (runW hkT 3 [ai (Int.ofNat 7), ai (Int.ofNat (j + 8))] s0) = true := by kernel_rfl
theorem MemoryStores_7_all (w : World) (hT : Tab w) (m : Int) : Calls Tryz.prog 3 #[.int .i64 (Int.ofNat 7), .int .i64 m] w fun e w' => Below w.heap.size w w' ∧ e = .returned (.bool true) := by
  rcases m with m | k
  · by_cases h : 8 ≤ m
    · obtain ⟨k, rfl⟩ : ∃ k, m = k + 8 := ⟨m - 8, by omega⟩
      exact lawT (MemoryStores_7_big k) (by exact ⟨rfl, rfl, trivial⟩) w hT
    · rcases (by omega : m = 0 ∨ m = 1 ∨ m = 2 ∨ m = 3 ∨ m = 4 ∨ m = 5 ∨ m = 6 ∨ m = 7) with rfl | rfl | rfl | rfl | rfl | rfl | rfl | rfl
      · exact MemoryStores_7_0_law (by exact ⟨rfl, rfl, trivial⟩) w hT
      · exact MemoryStores_7_1_law (by exact ⟨rfl, rfl, trivial⟩) w hT
      · exact MemoryStores_7_2_law (by exact ⟨rfl, rfl, trivial⟩) w hT
      · exact MemoryStores_7_3_law (by exact ⟨rfl, rfl, trivial⟩) w hT
      · exact MemoryStores_7_4_law (by exact ⟨rfl, rfl, trivial⟩) w hT
      · exact MemoryStores_7_5_law (by exact ⟨rfl, rfl, trivial⟩) w hT
      · exact MemoryStores_7_6_law (by exact ⟨rfl, rfl, trivial⟩) w hT
      · exact MemoryStores_7_7_law (by exact ⟨rfl, rfl, trivial⟩) w hT
  · exact lawT (MemoryStores_7_neg k) (by exact ⟨rfl, rfl, trivial⟩) w hT
end Go.Proofs.YtjbnkokcbhfdgabGreatDoor
