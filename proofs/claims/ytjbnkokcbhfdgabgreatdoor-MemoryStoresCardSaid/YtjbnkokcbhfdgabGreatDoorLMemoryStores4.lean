/- Tables of calls, and a run that uses them. -/
import Derived.Test.YtjbnkokcbhfdgabGreatDoorLn22
namespace Go.Proofs.YtjbnkokcbhfdgabGreatDoor
open Go Go.RowKit Ev
set_option maxRecDepth 100000
set_option linter.unusedVariables false
private noncomputable abbrev i (n : Nat) : CV := .int .i64 (.ofNat n)
private noncomputable abbrev o (b a n : Nat) : CV := .slice b a n (.opn 0)
private noncomputable abbrev f (b a n : Nat) : CV := .slice b a n (.fix n)
private noncomputable abbrev e (k t : Nat) : Nat × BK := (k, ⟨[.snil], t, 0, none⟩)
private noncomputable abbrev l0 : Bls := [(0, ⟨[.snil, i 0, i 0], 89, 0, none⟩),
(3, ⟨[o 19 0 6, i 3, i 0, i 0, i 0], 41, 0, none⟩),
(4, ⟨[i 0, o 9 0 2, f 3 0 1], 38, 0, none⟩),
(5, ⟨[f 7 0 1, f 0 0 1, .snil, .snil, f 4 0 1, i 0], 34, 0, none⟩),
(6, ⟨[i 0, i 0, i 0, i 0], 26, 0, none⟩),
(7, ⟨[f 6 0 2], 27, 0, none⟩),
(9, ⟨[i 0, i 0, i 1, i 0], 26, 2, none⟩),
(19, ⟨[i 1, i 0, i 0, i 0, i 7, .snil, i 5, i 1, i 0, i 0, i 0, .snil, i 8, i 0, i 1, i 0, i 0, .snil, i 8, i 0, i 1, i 0, i 1, .snil, i 8, i 0, i 1, i 0, i 0, .snil, i 8, i 0, i 1, i 0, i 1, .snil], 44, 6, none⟩)]
private noncomputable abbrev l1 : Bls := [(20, ⟨[o 28 0 1, o 32 0 1, o 67 0 1, o 58 0 1, o 60 0 1, i 5], 150, 0, none⟩),
(26, ⟨[i 0, i 1], 3, 1, none⟩),
(28, ⟨[o 26 0 2], 42, 1, none⟩),
(32, ⟨[i 2], 3, 1, none⟩),
(58, ⟨[i 1], 3, 1, none⟩),
(60, ⟨[i 0], 3, 1, none⟩),
(65, ⟨[i 3, i 4], 3, 1, none⟩),
(67, ⟨[o 65 0 2], 42, 1, none⟩),
(93, ⟨[o 103 0 5], 157, 0, none⟩),
(103, ⟨[i 0, i 1, i 2, i 3, i 4], 3, 1, none⟩),
(104, ⟨[.snil, .snil, .snil, .snil, .snil], 162, 0, none⟩),
(105, ⟨[o 156 0 1], 99, 0, none⟩),
(106, ⟨[], 0, 0, some (.map [] 0)⟩),
(107, ⟨[], 0, 0, some (.map [] 1)⟩),
(108, ⟨[.snil, o 314 0 0, .map 107, i 1], 161, 0, none⟩),
(109, ⟨[.ptr 5 0, .ptr 20 0, .ptr 93 0, o 148 0 5, o 151 0 5, o 154 0 5, f 104 0 5, .ptr 105 0, .map 106, .ptr 108 0], 105, 0, none⟩),
e 110 99,
e 113 99,
e 116 99,
(119, ⟨[o 312 0 1], 99, 0, none⟩),
e 125 99,
e 128 99,
e 131 99,
e 134 99,
e 137 99,
e 140 99,
e 143 99,
e 146 99,
(148, ⟨[.ptr 110 0, .ptr 119 0, .ptr 128 0, .ptr 137 0, .ptr 146 0], 96, 1, none⟩),
e 149 99,
(151, ⟨[.ptr 113 0, .ptr 369 0, .ptr 131 0, .ptr 140 0, .ptr 149 0], 96, 1, none⟩),
e 152 99,
(154, ⟨[.ptr 116 0, .ptr 125 0, .ptr 134 0, .ptr 143 0, .ptr 152 0], 96, 1, none⟩),
(156, ⟨[.int .u64 (.ofNat 1)], 229, 1, none⟩),
(312, ⟨[.int .u64 (.ofNat 1)], 229, 1, none⟩),
(314, ⟨[i 0], 3, 1, none⟩),
(368, ⟨[.int .u64 (.ofNat 1)], 229, 1, none⟩),
(369, ⟨[o 368 0 1], 99, 0, none⟩)]
private noncomputable abbrev l2 : Bls := [(372, ⟨[.ptr 5 0, .ptr 109 0, o 571 0 7, o 418 0 1], 178, 0, none⟩),
(375, ⟨[i 0, f 377 0 7], 258, 0, none⟩),
(377, ⟨[.snil, o 383 0 1, o 389 0 1, o 395 0 1, o 401 0 1, o 407 0 1, o 413 0 1], 42, 0, none⟩),
(383, ⟨[i 0], 3, 1, none⟩),
(389, ⟨[i 1], 3, 1, none⟩),
(395, ⟨[i 2], 3, 1, none⟩),
(401, ⟨[i 3], 3, 1, none⟩),
(407, ⟨[i 4], 3, 1, none⟩),
(413, ⟨[i 5], 3, 1, none⟩),
(418, ⟨[.ptr 375 0], 179, 1, none⟩),
(434, ⟨[], 0, 0, some (.map [] 0)⟩),
(447, ⟨[], 0, 0, some (.map [(0, .agg [i 1, i 0], .c (.bool true)), (1, .agg [i 1, i 1], .c (.bool true))] 2)⟩),
(469, ⟨[], 0, 0, some (.map [(0, .agg [i 1, i 0], .c (.bool true))] 1)⟩),
(492, ⟨[], 0, 0, some (.map [(0, .agg [i 1, i 1], .c (.bool true))] 1)⟩),
(515, ⟨[], 0, 0, some (.map [(0, .agg [i 1, i 0], .c (.bool true))] 1)⟩),
(538, ⟨[], 0, 0, some (.map [(0, .agg [i 1, i 1], .c (.bool true))] 1)⟩),
(561, ⟨[], 0, 0, some (.map [] 0)⟩),
(571, ⟨[.map 434, .map 447, .map 469, .map 492, .map 515, .map 538, .map 561], 181, 1, none⟩)]
private noncomputable abbrev l3 : Bls := [(0, ⟨[.snil, i 0, i 0], 89, 0, none⟩),
(3, ⟨[o 19 0 6, i 3, i 0, i 0, i 0], 41, 0, none⟩),
(4, ⟨[i 0, o 9 0 2, f 3 0 1], 38, 0, none⟩),
(5, ⟨[f 7 0 1, f 0 0 1, .snil, .snil, f 4 0 1, i 0], 34, 0, none⟩),
(6, ⟨[i 0, i 0, i 0, i 0], 26, 0, none⟩),
(7, ⟨[f 6 0 2], 27, 0, none⟩),
(9, ⟨[i 0, i 0, i 1, i 0], 26, 2, none⟩),
(19, ⟨[i 1, i 0, i 0, i 0, i 7, .snil, i 5, i 1, i 0, i 0, i 0, .snil, i 8, i 0, i 1, i 0, i 0, .snil, i 8, i 0, i 1, i 0, i 1, .snil, i 8, i 0, i 1, i 0, i 0, .snil, i 8, i 0, i 1, i 0, i 1, .snil], 44, 6, none⟩),
(20, ⟨[o 28 0 1, o 32 0 1, o 67 0 1, o 58 0 1, o 60 0 1, i 5], 150, 0, none⟩),
(26, ⟨[i 0, i 1], 3, 1, none⟩),
(28, ⟨[o 26 0 2], 42, 1, none⟩),
(32, ⟨[i 2], 3, 1, none⟩),
(58, ⟨[i 1], 3, 1, none⟩),
(60, ⟨[i 0], 3, 1, none⟩),
(65, ⟨[i 3, i 4], 3, 1, none⟩),
(67, ⟨[o 65 0 2], 42, 1, none⟩),
(93, ⟨[o 103 0 5], 157, 0, none⟩),
(103, ⟨[i 0, i 1, i 2, i 3, i 4], 3, 1, none⟩),
(104, ⟨[.snil, .snil, .snil, .snil, .snil], 162, 0, none⟩),
(105, ⟨[o 156 0 1], 99, 0, none⟩),
(106, ⟨[], 0, 0, some (.map [] 0)⟩),
(107, ⟨[], 0, 0, some (.map [] 1)⟩),
(108, ⟨[.snil, o 314 0 0, .map 107, i 1], 161, 0, none⟩),
(109, ⟨[.ptr 5 0, .ptr 20 0, .ptr 93 0, o 148 0 5, o 151 0 5, o 154 0 5, f 104 0 5, .ptr 105 0, .map 106, .ptr 108 0], 105, 0, none⟩),
e 110 99,
e 113 99,
e 116 99,
(119, ⟨[o 312 0 1], 99, 0, none⟩),
e 125 99,
e 128 99,
e 131 99,
e 134 99,
e 137 99,
e 140 99,
e 143 99,
e 146 99,
(148, ⟨[.ptr 110 0, .ptr 119 0, .ptr 128 0, .ptr 137 0, .ptr 146 0], 96, 1, none⟩),
e 149 99,
(151, ⟨[.ptr 113 0, .ptr 369 0, .ptr 131 0, .ptr 140 0, .ptr 149 0], 96, 1, none⟩),
e 152 99,
(154, ⟨[.ptr 116 0, .ptr 125 0, .ptr 134 0, .ptr 143 0, .ptr 152 0], 96, 1, none⟩),
(156, ⟨[.int .u64 (.ofNat 1)], 229, 1, none⟩),
(312, ⟨[.int .u64 (.ofNat 1)], 229, 1, none⟩),
(314, ⟨[i 0], 3, 1, none⟩),
(368, ⟨[.int .u64 (.ofNat 1)], 229, 1, none⟩),
(369, ⟨[o 368 0 1], 99, 0, none⟩)]
private noncomputable def m0 : MM := ⟨[56], l0, 20, [⟨56, 0, [.v (.c (.ptr 5 0))], .v (.c (.nili))⟩]⟩
private theorem m0_k : H0.tbl m0 = true := by kernel_rfl
private noncomputable def h1 : HK := H0.memo m0 m0_k
private noncomputable def m1 : MM := ⟨[91], [(3, ⟨[o 19 0 6, i 3, i 0, i 0, i 0], 41, 0, none⟩),
(4, ⟨[i 0, o 9 0 2, f 3 0 1], 38, 0, none⟩),
(5, ⟨[f 7 0 1, f 0 0 1, .snil, .snil, f 4 0 1, i 0], 34, 0, none⟩)], 49, [⟨91, 0, [.v (.c (.ptr 5 0)), .v (.c (i 0))], .tup [.agg [i 0, i 0, i 0], .c (.bool true)]⟩,
⟨91, 1, [.v (.c (.ptr 5 0)), .v (.c (i 1))], .tup [.agg [i 0, i 0, i 1], .c (.bool true)]⟩,
⟨91, 2, [.v (.c (.ptr 5 0)), .v (.c (i 2))], .tup [.agg [i 0, i 0, i 2], .c (.bool true)]⟩,
⟨91, 3, [.v (.c (.ptr 5 0)), .v (.c (i 3))], .tup [.agg [i 0, i 0, i 3], .c (.bool true)]⟩,
⟨91, 4, [.v (.c (.ptr 5 0)), .v (.c (i 4))], .tup [.agg [i 0, i 0, i 4], .c (.bool true)]⟩,
⟨91, 5, [.v (.c (.ptr 5 0)), .v (.c (i 5))], .tup [.agg [i 0, i 0, i 5], .c (.bool true)]⟩,
⟨91, 6, [.v (.c (.ptr 5 0)), .v (.c (i 6))], .tup [.agg [i 0, i 0, i 6], .c (.bool true)]⟩]⟩
private theorem m1_k : h1.tbl m1 = true := by kernel_rfl
private noncomputable def h2 : HK := h1.memo m1 m1_k
private noncomputable def s1 : RE := ⟨35, [.v (.c (.ptr 5 0))], 20, .v (.c (.ptr 20 0)), [(20, ⟨[o 28 0 1, o 32 0 1, o 67 0 1, o 58 0 1, o 60 0 1, i 5], 150, 0, none⟩),
(26, ⟨[i 0, i 1], 3, 1, none⟩),
(28, ⟨[o 26 0 2], 42, 1, none⟩),
(32, ⟨[i 2], 3, 1, none⟩),
(58, ⟨[i 1], 3, 1, none⟩),
(60, ⟨[i 0], 3, 1, none⟩),
(65, ⟨[i 3, i 4], 3, 1, none⟩),
(67, ⟨[o 65 0 2], 42, 1, none⟩)], 93⟩
private theorem s1_k : h2.srp l0 s1 = true := by kernel_rfl
private noncomputable def h3 : HK := h2.srep _ s1 s1_k
private noncomputable def s2 : RE := ⟨9, [.v (.c (.ptr 5 0)), .v (.c (.snil))], 20, .v (.c (.ptr 109 0)), l1, 370⟩
private theorem s2_k : h3.rep l0 s2 = true := by kernel_rfl
private noncomputable def h4 : HK := h3.repl _ s2 s2_k
private noncomputable def s3 : RE := ⟨43, [.v (.c (.ptr 5 0)), .v (.c (.ptr 109 0))], 372, .v (.c (.ptr 372 0)), l2, 572⟩
private theorem s3_k : h4.srp l3 s3 = true := by kernel_rfl
private noncomputable def h5 : HK := h4.srep _ s3 s3_k
private noncomputable def s4 : RE := ⟨11, [.v (.c (.ptr 5 0)), .v (.c (.ptr 109 0)), .v (.c (i 0))], 794, .v (.c (o 899 0 2)), [(899, ⟨[i 1, i 0, i 1, i 1, i 0, i 0, i 0, i 0, i 0, i 0, i 0, i 0], 48, 2, none⟩)], 998⟩
private theorem s4_k : h5.srp l3 s4 = true := by kernel_rfl
private noncomputable def h6 : HK := h5.srep _ s4 s4_k
theorem MemoryStores_4_0_run : isBool true (runW h6.K 3 [ai (Int.ofNat 4), ai (Int.ofNat 0)] s0) = true := by kernel_rfl
theorem MemoryStores_4_0_law {args : Array Value} (ha : VAs (fun _ => none) [ai (Int.ofNat 4), ai (Int.ofNat 0)] args.toList) (w : World) (hT : Tab w) :
    Calls Tryz.prog 3 args w fun e w' => Below w.heap.size w w' ∧ e = .returned (.bool true) := h6.law MemoryStores_4_0_run ha w hT
theorem MemoryStores_4_1_run : isBool true (runW h6.K 3 [ai (Int.ofNat 4), ai (Int.ofNat 1)] s0) = true := by kernel_rfl
theorem MemoryStores_4_1_law {args : Array Value} (ha : VAs (fun _ => none) [ai (Int.ofNat 4), ai (Int.ofNat 1)] args.toList) (w : World) (hT : Tab w) :
    Calls Tryz.prog 3 args w fun e w' => Below w.heap.size w w' ∧ e = .returned (.bool true) := h6.law MemoryStores_4_1_run ha w hT
theorem MemoryStores_4_2_run : isBool true (runW h6.K 3 [ai (Int.ofNat 4), ai (Int.ofNat 2)] s0) = true := by kernel_rfl
theorem MemoryStores_4_2_law {args : Array Value} (ha : VAs (fun _ => none) [ai (Int.ofNat 4), ai (Int.ofNat 2)] args.toList) (w : World) (hT : Tab w) :
    Calls Tryz.prog 3 args w fun e w' => Below w.heap.size w w' ∧ e = .returned (.bool true) := h6.law MemoryStores_4_2_run ha w hT
theorem MemoryStores_4_3_run : isBool true (runW h6.K 3 [ai (Int.ofNat 4), ai (Int.ofNat 3)] s0) = true := by kernel_rfl
theorem MemoryStores_4_3_law {args : Array Value} (ha : VAs (fun _ => none) [ai (Int.ofNat 4), ai (Int.ofNat 3)] args.toList) (w : World) (hT : Tab w) :
    Calls Tryz.prog 3 args w fun e w' => Below w.heap.size w w' ∧ e = .returned (.bool true) := h6.law MemoryStores_4_3_run ha w hT
theorem MemoryStores_4_4_run : isBool true (runW h6.K 3 [ai (Int.ofNat 4), ai (Int.ofNat 4)] s0) = true := by kernel_rfl
theorem MemoryStores_4_4_law {args : Array Value} (ha : VAs (fun _ => none) [ai (Int.ofNat 4), ai (Int.ofNat 4)] args.toList) (w : World) (hT : Tab w) :
    Calls Tryz.prog 3 args w fun e w' => Below w.heap.size w w' ∧ e = .returned (.bool true) := h6.law MemoryStores_4_4_run ha w hT
theorem MemoryStores_4_neg (j : Nat) : isBool true (runW hkT 3 [ai (Int.ofNat 4), ai (Int.negSucc j)] s0) = true := by kernel_rfl
theorem MemoryStores_4_big (j : Nat) : isBool true (runW hkT 3 [ai (Int.ofNat 4), ai (Int.ofNat (j + 5))] s0) = true := by kernel_rfl
theorem MemoryStores_4_all (w : World) (hT : Tab w) (m : Int) : Calls Tryz.prog 3 #[.int .i64 (Int.ofNat 4), .int .i64 m] w fun e w' => Below w.heap.size w w' ∧ e = .returned (.bool true) := by
  rcases m with m | k
  · by_cases h : 5 ≤ m
    · obtain ⟨k, rfl⟩ : ∃ k, m = k + 5 := ⟨m - 5, by omega⟩
      exact lawT (MemoryStores_4_big k) (by exact ⟨rfl, rfl, trivial⟩) w hT
    · rcases (by omega : m = 0 ∨ m = 1 ∨ m = 2 ∨ m = 3 ∨ m = 4) with rfl | rfl | rfl | rfl | rfl
      · exact MemoryStores_4_0_law (by exact ⟨rfl, rfl, trivial⟩) w hT
      · exact MemoryStores_4_1_law (by exact ⟨rfl, rfl, trivial⟩) w hT
      · exact MemoryStores_4_2_law (by exact ⟨rfl, rfl, trivial⟩) w hT
      · exact MemoryStores_4_3_law (by exact ⟨rfl, rfl, trivial⟩) w hT
      · exact MemoryStores_4_4_law (by exact ⟨rfl, rfl, trivial⟩) w hT
  · exact lawT (MemoryStores_4_neg k) (by exact ⟨rfl, rfl, trivial⟩) w hT
end Go.Proofs.YtjbnkokcbhfdgabGreatDoor
