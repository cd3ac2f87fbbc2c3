/- Tables of calls, and a run that uses them. -/
import Derived.Test.YtjbnkokcbhfdgabGreatDoorLn22
namespace Go.Proofs.YtjbnkokcbhfdgabGreatDoor
open Go Go.RowKit Ev
set_option maxRecDepth 100000
set_option linter.unusedVariables false
private noncomputable abbrev i (n : Nat) : CV := .int .i64 (.ofNat n)
private noncomputable abbrev o (b a n : Nat) : CV := .slice b a n (.opn 0)
private noncomputable abbrev f (b a n : Nat) : CV := .slice b a n (.fix n)
private noncomputable abbrev e (k t : Nat) : Nat × BK := (k, ⟨[.snil], t, 0, none⟩)
private noncomputable abbrev l0 : Bls := [(0, ⟨[.snil, i 0, i 0], 89, 0, none⟩),
(3, ⟨[o 23 0 8, i 3, i 0, i 0, i 0], 41, 0, none⟩),
(4, ⟨[i 0, o 9 0 2, f 3 0 1], 38, 0, none⟩),
(5, ⟨[f 7 0 1, f 0 0 1, .snil, .snil, f 4 0 1, i 0], 34, 0, none⟩),
(6, ⟨[i 0, i 0, i 0, i 0], 26, 0, none⟩),
(7, ⟨[f 6 0 2], 27, 0, none⟩),
(9, ⟨[i 0, i 0, i 1, i 0], 26, 2, none⟩),
(23, ⟨[i 1, i 0, i 0, i 0, i 7, .snil, i 5, i 1, i 0, i 0, i 0, .snil, i 8, i 0, i 1, i 0, i 0, .snil, i 8, i 0, i 1, i 0, i 1, .snil, i 8, i 0, i 1, i 0, i 0, .snil, i 8, i 0, i 1, i 0, i 1, .snil, i 8, i 0, i 1, i 0, i 0, .snil, i 8, i 0, i 1, i 0, i 1, .snil], 44, 6, none⟩)]
private noncomputable abbrev l1 : Bls := [(24, ⟨[o 32 0 1, o 36 0 1, o 75 0 1, o 66 0 1, o 68 0 1, i 5], 150, 0, none⟩),
(30, ⟨[i 0, i 1], 3, 1, none⟩),
(32, ⟨[o 30 0 2], 42, 1, none⟩),
(36, ⟨[i 2], 3, 1, none⟩),
(66, ⟨[i 1], 3, 1, none⟩),
(68, ⟨[i 0], 3, 1, none⟩),
(73, ⟨[i 3, i 4], 3, 1, none⟩),
(75, ⟨[o 73 0 2], 42, 1, none⟩),
(111, ⟨[o 121 0 5], 157, 0, none⟩),
(121, ⟨[i 0, i 1, i 2, i 3, i 4], 3, 1, none⟩),
(122, ⟨[.snil, .snil, .snil, .snil, .snil], 162, 0, none⟩),
(123, ⟨[o 174 0 1], 99, 0, none⟩),
(124, ⟨[], 0, 0, some (.map [] 0)⟩),
(125, ⟨[], 0, 0, some (.map [] 1)⟩),
(126, ⟨[.snil, o 366 0 0, .map 125, i 1], 161, 0, none⟩),
(127, ⟨[.ptr 5 0, .ptr 24 0, .ptr 111 0, o 166 0 5, o 169 0 5, o 172 0 5, f 122 0 5, .ptr 123 0, .map 124, .ptr 126 0], 105, 0, none⟩),
e 128 99,
e 131 99,
e 134 99,
(137, ⟨[o 364 0 1], 99, 0, none⟩),
e 143 99,
e 146 99,
e 149 99,
e 152 99,
e 155 99,
e 158 99,
e 161 99,
e 164 99,
(166, ⟨[.ptr 128 0, .ptr 137 0, .ptr 146 0, .ptr 155 0, .ptr 164 0], 96, 1, none⟩),
e 167 99,
(169, ⟨[.ptr 131 0, .ptr 435 0, .ptr 149 0, .ptr 158 0, .ptr 167 0], 96, 1, none⟩),
e 170 99,
(172, ⟨[.ptr 134 0, .ptr 143 0, .ptr 152 0, .ptr 161 0, .ptr 170 0], 96, 1, none⟩),
(174, ⟨[.int .u64 (.ofNat 1)], 229, 1, none⟩),
(364, ⟨[.int .u64 (.ofNat 1)], 229, 1, none⟩),
(366, ⟨[i 0], 3, 1, none⟩),
(434, ⟨[.int .u64 (.ofNat 1)], 229, 1, none⟩),
(435, ⟨[o 434 0 1], 99, 0, none⟩)]
private noncomputable abbrev l2 : Bls := [(438, ⟨[.ptr 5 0, .ptr 127 0, o 699 0 9, o 496 0 1], 178, 0, none⟩),
(441, ⟨[i 0, f 443 0 9], 258, 0, none⟩),
(443, ⟨[.snil, o 449 0 1, o 455 0 1, o 461 0 1, o 467 0 1, o 473 0 1, o 479 0 1, o 485 0 1, o 491 0 1], 42, 0, none⟩),
(449, ⟨[i 0], 3, 1, none⟩),
(455, ⟨[i 1], 3, 1, none⟩),
(461, ⟨[i 2], 3, 1, none⟩),
(467, ⟨[i 3], 3, 1, none⟩),
(473, ⟨[i 4], 3, 1, none⟩),
(479, ⟨[i 5], 3, 1, none⟩),
(485, ⟨[i 6], 3, 1, none⟩),
(491, ⟨[i 7], 3, 1, none⟩),
(496, ⟨[.ptr 441 0], 179, 1, none⟩),
(516, ⟨[], 0, 0, some (.map [] 0)⟩),
(529, ⟨[], 0, 0, some (.map [(0, .agg [i 1, i 0], .c (.bool true)), (1, .agg [i 1, i 1], .c (.bool true))] 2)⟩),
(551, ⟨[], 0, 0, some (.map [(0, .agg [i 1, i 0], .c (.bool true))] 1)⟩),
(574, ⟨[], 0, 0, some (.map [(0, .agg [i 1, i 1], .c (.bool true))] 1)⟩),
(597, ⟨[], 0, 0, some (.map [(0, .agg [i 1, i 0], .c (.bool true))] 1)⟩),
(620, ⟨[], 0, 0, some (.map [(0, .agg [i 1, i 1], .c (.bool true))] 1)⟩),
(643, ⟨[], 0, 0, some (.map [(0, .agg [i 1, i 0], .c (.bool true))] 1)⟩),
(666, ⟨[], 0, 0, some (.map [(0, .agg [i 1, i 1], .c (.bool true))] 1)⟩),
(689, ⟨[], 0, 0, some (.map [] 0)⟩),
(699, ⟨[.map 516, .map 529, .map 551, .map 574, .map 597, .map 620, .map 643, .map 666, .map 689], 181, 1, none⟩)]
private noncomputable abbrev l3 : Bls := [(0, ⟨[.snil, i 0, i 0], 89, 0, none⟩),
(3, ⟨[o 23 0 8, i 3, i 0, i 0, i 0], 41, 0, none⟩),
(4, ⟨[i 0, o 9 0 2, f 3 0 1], 38, 0, none⟩),
(5, ⟨[f 7 0 1, f 0 0 1, .snil, .snil, f 4 0 1, i 0], 34, 0, none⟩),
(6, ⟨[i 0, i 0, i 0, i 0], 26, 0, none⟩),
(7, ⟨[f 6 0 2], 27, 0, none⟩),
(9, ⟨[i 0, i 0, i 1, i 0], 26, 2, none⟩),
(23, ⟨[i 1, i 0, i 0, i 0, i 7, .snil, i 5, i 1, i 0, i 0, i 0, .snil, i 8, i 0, i 1, i 0, i 0, .snil, i 8, i 0, i 1, i 0, i 1, .snil, i 8, i 0, i 1, i 0, i 0, .snil, i 8, i 0, i 1, i 0, i 1, .snil, i 8, i 0, i 1, i 0, i 0, .snil, i 8, i 0, i 1, i 0, i 1, .snil], 44, 6, none⟩),
(24, ⟨[o 32 0 1, o 36 0 1, o 75 0 1, o 66 0 1, o 68 0 1, i 5], 150, 0, none⟩),
(30, ⟨[i 0, i 1], 3, 1, none⟩),
(32, ⟨[o 30 0 2], 42, 1, none⟩),
(36, ⟨[i 2], 3, 1, none⟩),
(66, ⟨[i 1], 3, 1, none⟩),
(68, ⟨[i 0], 3, 1, none⟩),
(73, ⟨[i 3, i 4], 3, 1, none⟩),
(75, ⟨[o 73 0 2], 42, 1, none⟩),
(111, ⟨[o 121 0 5], 157, 0, none⟩),
(121, ⟨[i 0, i 1, i 2, i 3, i 4], 3, 1, none⟩),
(122, ⟨[.snil, .snil, .snil, .snil, .snil], 162, 0, none⟩),
(123, ⟨[o 174 0 1], 99, 0, none⟩),
(124, ⟨[], 0, 0, some (.map [] 0)⟩),
(125, ⟨[], 0, 0, some (.map [] 1)⟩),
(126, ⟨[.snil, o 366 0 0, .map 125, i 1], 161, 0, none⟩),
(127, ⟨[.ptr 5 0, .ptr 24 0, .ptr 111 0, o 166 0 5, o 169 0 5, o 172 0 5, f 122 0 5, .ptr 123 0, .map 124, .ptr 126 0], 105, 0, none⟩),
e 128 99,
e 131 99,
e 134 99,
(137, ⟨[o 364 0 1], 99, 0, none⟩),
e 143 99,
e 146 99,
e 149 99,
e 152 99,
e 155 99,
e 158 99,
e 161 99,
e 164 99,
(166, ⟨[.ptr 128 0, .ptr 137 0, .ptr 146 0, .ptr 155 0, .ptr 164 0], 96, 1, none⟩),
e 167 99,
(169, ⟨[.ptr 131 0, .ptr 435 0, .ptr 149 0, .ptr 158 0, .ptr 167 0], 96, 1, none⟩),
e 170 99,
(172, ⟨[.ptr 134 0, .ptr 143 0, .ptr 152 0, .ptr 161 0, .ptr 170 0], 96, 1, none⟩),
(174, ⟨[.int .u64 (.ofNat 1)], 229, 1, none⟩),
(364, ⟨[.int .u64 (.ofNat 1)], 229, 1, none⟩),
(366, ⟨[i 0], 3, 1, none⟩),
(434, ⟨[.int .u64 (.ofNat 1)], 229, 1, none⟩),
(435, ⟨[o 434 0 1], 99, 0, none⟩)]
private noncomputable def m0 : MM := ⟨[56], l0, 24, [⟨56, 0, [.v (.c (.ptr 5 0))], .v (.c (.nili))⟩]⟩
private theorem m0_k : H0.tbl m0 = true := by kernel_rfl
private noncomputable def h1 : HK := H0.memo m0 m0_k
private noncomputable def m1 : MM := ⟨[91], [(3, ⟨[o 23 0 8, i 3, i 0, i 0, i 0], 41, 0, none⟩),
(4, ⟨[i 0, o 9 0 2, f 3 0 1], 38, 0, none⟩),
(5, ⟨[f 7 0 1, f 0 0 1, .snil, .snil, f 4 0 1, i 0], 34, 0, none⟩)], 57, [⟨91, 0, [.v (.c (.ptr 5 0)), .v (.c (i 0))], .tup [.agg [i 0, i 0, i 0], .c (.bool true)]⟩,
⟨91, 1, [.v (.c (.ptr 5 0)), .v (.c (i 1))], .tup [.agg [i 0, i 0, i 1], .c (.bool true)]⟩,
⟨91, 2, [.v (.c (.ptr 5 0)), .v (.c (i 2))], .tup [.agg [i 0, i 0, i 2], .c (.bool true)]⟩,
⟨91, 3, [.v (.c (.ptr 5 0)), .v (.c (i 3))], .tup [.agg [i 0, i 0, i 3], .c (.bool true)]⟩,
⟨91, 4, [.v (.c (.ptr 5 0)), .v (.c (i 4))], .tup [.agg [i 0, i 0, i 4], .c (.bool true)]⟩,
⟨91, 5, [.v (.c (.ptr 5 0)), .v (.c (i 5))], .tup [.agg [i 0, i 0, i 5], .c (.bool true)]⟩,
⟨91, 6, [.v (.c (.ptr 5 0)), .v (.c (i 6))], .tup [.agg [i 0, i 0, i 6], .c (.bool true)]⟩,
⟨91, 7, [.v (.c (.ptr 5 0)), .v (.c (i 7))], .tup [.agg [i 0, i 0, i 7], .c (.bool true)]⟩,
⟨91, 8, [.v (.c (.ptr 5 0)), .v (.c (i 8))], .tup [.agg [i 0, i 0, i 8], .c (.bool true)]⟩]⟩
private theorem m1_k : h1.tbl m1 = true := by kernel_rfl
private noncomputable def h2 : HK := h1.memo m1 m1_k
private noncomputable def s1 : RE := ⟨35, [.v (.c (.ptr 5 0))], 24, .v (.c (.ptr 24 0)), [(24, ⟨[o 32 0 1, o 36 0 1, o 75 0 1, o 66 0 1, o 68 0 1, i 5], 150, 0, none⟩),
(30, ⟨[i 0, i 1], 3, 1, none⟩),
(32, ⟨[o 30 0 2], 42, 1, none⟩),
(36, ⟨[i 2], 3, 1, none⟩),
(66, ⟨[i 1], 3, 1, none⟩),
(68, ⟨[i 0], 3, 1, none⟩),
(73, ⟨[i 3, i 4], 3, 1, none⟩),
(75, ⟨[o 73 0 2], 42, 1, none⟩)], 111⟩
private theorem s1_k : h2.srp l0 s1 = true := by kernel_rfl
private noncomputable def h3 : HK := h2.srep _ s1 s1_k
private noncomputable def s2 : RE := ⟨9, [.v (.c (.ptr 5 0)), .v (.c (.snil))], 24, .v (.c (.ptr 127 0)), l1, 436⟩
private theorem s2_k : h3.rep l0 s2 = true := by kernel_rfl
private noncomputable def h4 : HK := h3.repl _ s2 s2_k
private noncomputable def s3 : RE := ⟨43, [.v (.c (.ptr 5 0)), .v (.c (.ptr 127 0))], 438, .v (.c (.ptr 438 0)), l2, 700⟩
private theorem s3_k : h4.srp l3 s3 = true := by kernel_rfl
private noncomputable def h5 : HK := h4.srep _ s3 s3_k
private noncomputable def s4 : RE := ⟨11, [.v (.c (.ptr 5 0)), .v (.c (.ptr 127 0)), .v (.c (i 0))], 984, .v (.c (o 1123 0 2)), [(1123, ⟨[i 1, i 0, i 1, i 1, i 0, i 0, i 0, i 0, i 0, i 0, i 0, i 0, i 0, i 0, i 0, i 0], 48, 2, none⟩)], 1251⟩
private theorem s4_k : h5.srp l3 s4 = true := by kernel_rfl
private noncomputable def h6 : HK := h5.srep _ s4 s4_k
theorem MemoryStores_6_0_run : isBool true (runW h6.K 3 [ai (Int.ofNat 6), ai (Int.ofNat 0)] s0) = true := by kernel_rfl
theorem MemoryStores_6_0_law {args : Array Value} (ha : VAs (fun _ => none) [ai (Int.ofNat 6), ai (Int.ofNat 0)] args.toList) (w : World) (hT : Tab w) :
    Calls Tryz.prog 3 args w fun e w' => Below w.heap.size w w' ∧ e = .returned (.bool true) := h6.law MemoryStores_6_0_run ha w hT
theorem MemoryStores_6_1_run : isBool true (runW h6.K 3 [ai (Int.ofNat 6), ai (Int.ofNat 1)] s0) = true := by kernel_rfl
theorem MemoryStores_6_1_law {args : Array Value} (ha : VAs (fun _ => none) [ai (Int.ofNat 6), ai (Int.ofNat 1)] args.toList) (w : World) (hT : Tab w) :
    Calls Tryz.prog 3 args w fun e w' => Below w.heap.size w w' ∧ e = .returned (.bool true) := h6.law MemoryStores_6_1_run ha w hT
theorem MemoryStores_6_2_run : isBool true (runW h6.K 3 [ai (Int.ofNat 6), ai (Int.ofNat 2)] s0) = true := by kernel_rfl
theorem MemoryStores_6_2_law {args : Array Value} (ha : VAs (fun _ => none) [ai (Int.ofNat 6), ai (Int.ofNat 2)] args.toList) (w : World) (hT : Tab w) :
    Calls Tryz.prog 3 args w fun e w' => Below w.heap.size w w' ∧ e = .returned (.bool true) := h6.law MemoryStores_6_2_run ha w hT
theorem MemoryStores_6_3_run : isBool true (runW h6.K 3 [ai (Int.ofNat 6), ai (Int.ofNat 3)] s0) = true := by kernel_rfl
theorem MemoryStores_6_3_law {args : Array Value} (ha : VAs (fun _ => none) [ai (Int.ofNat 6), ai (Int.ofNat 3)] args.toList) (w : World) (hT : Tab w) :
    Calls Tryz.prog 3 args w fun e w' => Below w.heap.size w w' ∧ e = .returned (.bool true) := h6.law MemoryStores_6_3_run ha w hT
theorem MemoryStores_6_4_run : isBool true (runW h6.K 3 [ai (Int.ofNat 6), ai (Int.ofNat 4)] s0) = true := by kernel_rfl
theorem MemoryStores_6_4_law {args : Array Value} (ha : VAs (fun _ => none) [ai (Int.ofNat 6), ai (Int.ofNat 4)] args.toList) (w : World) (hT : Tab w) :
    Calls Tryz.prog 3 args w fun e w' => Below w.heap.size w w' ∧ e = .returned (.bool true) := h6.law MemoryStores_6_4_run ha w hT
theorem MemoryStores_6_5_run : isBool true (runW h6.K 3 [ai (Int.ofNat 6), ai (Int.ofNat 5)] s0) = true := by kernel_rfl
theorem MemoryStores_6_5_law {args : Array Value} (ha : VAs (fun _ => none) [ai (Int.ofNat 6), ai (Int.ofNat 5)] args.toList) (w : World) (hT : Tab w) :
    Calls Tryz.prog 3 args w fun e w' => Below w.heap.size w w' ∧ e = .returned (.bool true) := h6.law MemoryStores_6_5_run ha w hT
theorem MemoryStores_6_6_run : isBool true (runW h6.K 3 [ai (Int.ofNat 6), ai (Int.ofNat 6)] s0) = true := by kernel_rfl
theorem MemoryStores_6_6_law {args : Array Value} (ha : VAs (fun _ => none) [ai (Int.ofNat 6), ai (Int.ofNat 6)] args.toList) (w : World) (hT : Tab w) :
    Calls Tryz.prog 3 args w fun e w' => Below w.heap.size w w' ∧ e = .returned (.bool true) := h6.law MemoryStores_6_6_run ha w hT
theorem MemoryStores_6_neg (j : Nat) : isBool true (runW hkT 3 [ai (Int.ofNat 6), ai (Int.negSucc j)] s0) = true := by kernel_rfl
theorem MemoryStores_6_big (j : Nat) : isBool true (runW hkT 3 [ai (Int.ofNat 6), ai (Int.ofNat (j + 7))] s0) = true := by kernel_rfl
theorem MemoryStores_6_all (w : World) (hT : Tab w) (m : Int) : Calls Tryz.prog 3 #[.int .i64 (Int.ofNat 6), .int .i64 m] w fun e w' => Below w.heap.size w w' ∧ e = .returned (.bool true) := by
  rcases m with m | k
  · by_cases h : 7 ≤ m
    · obtain ⟨k, rfl⟩ : ∃ k, m = k + 7 := ⟨m - 7, by omega⟩
      exact lawT (MemoryStores_6_big k) (by exact ⟨rfl, rfl, trivial⟩) w hT
    · rcases (by omega : m = 0 ∨ m = 1 ∨ m = 2 ∨ m = 3 ∨ m = 4 ∨ m = 5 ∨ m = 6) with rfl | rfl | rfl | rfl | rfl | rfl | rfl
      · exact MemoryStores_6_0_law (by exact ⟨rfl, rfl, trivial⟩) w hT
      · exact MemoryStores_6_1_law (by exact ⟨rfl, rfl, trivial⟩) w hT
      · exact MemoryStores_6_2_law (by exact ⟨rfl, rfl, trivial⟩) w hT
      · exact MemoryStores_6_3_law (by exact ⟨rfl, rfl, trivial⟩) w hT
      · exact MemoryStores_6_4_law (by exact ⟨rfl, rfl, trivial⟩) w hT
      · exact MemoryStores_6_5_law (by exact ⟨rfl, rfl, trivial⟩) w hT
      · exact MemoryStores_6_6_law (by exact ⟨rfl, rfl, trivial⟩) w hT
  · exact lawT (MemoryStores_6_neg k) (by exact ⟨rfl, rfl, trivial⟩) w hT
end Go.Proofs.YtjbnkokcbhfdgabGreatDoor
