/- Tables of calls, and a run that uses them. -/
import Derived.Test.YtjbnkokcbhfdgabGreatDoorLn22
namespace Go.Proofs.YtjbnkokcbhfdgabGreatDoor
open Go Go.RowKit Ev
set_option maxRecDepth 100000
set_option linter.unusedVariables false
private noncomputable abbrev i (n : Nat) : CV := .int .i64 (.ofNat n)
private noncomputable abbrev o (b a n : Nat) : CV := .slice b a n (.opn 0)
private noncomputable abbrev f (b a n : Nat) : CV := .slice b a n (.fix n)
private noncomputable abbrev e (k t : Nat) : Nat × BK := (k, ⟨[.snil], t, 0, none⟩)
private noncomputable abbrev l0 : Bls := [(0, ⟨[.snil, i 0, i 0], 89, 0, none⟩),
(3, ⟨[o 17 0 5, i 3, i 0, i 0, i 0], 41, 0, none⟩),
(4, ⟨[i 0, o 9 0 2, f 3 0 1], 38, 0, none⟩),
(5, ⟨[f 7 0 1, f 0 0 1, .snil, .snil, f 4 0 1, i 0], 34, 0, none⟩),
(6, ⟨[i 0, i 0, i 0, i 0], 26, 0, none⟩),
(7, ⟨[f 6 0 2], 27, 0, none⟩),
(9, ⟨[i 0, i 0, i 1, i 0], 26, 2, none⟩),
(17, ⟨[i 1, i 0, i 0, i 0, i 7, .snil, i 5, i 1, i 0, i 0, i 0, .snil, i 8, i 0, i 1, i 0, i 0, .snil, i 8, i 0, i 1, i 0, i 1, .snil, i 8, i 0, i 1, i 0, i 0, .snil], 44, 6, none⟩)]
private noncomputable abbrev l1 : Bls := [(18, ⟨[o 26 0 1, o 30 0 1, o 63 0 1, o 54 0 1, o 56 0 1, i 5], 150, 0, none⟩),
(24, ⟨[i 0, i 1], 3, 1, none⟩),
(26, ⟨[o 24 0 2], 42, 1, none⟩),
(30, ⟨[i 2], 3, 1, none⟩),
(54, ⟨[i 1], 3, 1, none⟩),
(56, ⟨[i 0], 3, 1, none⟩),
(61, ⟨[i 3, i 4], 3, 1, none⟩),
(63, ⟨[o 61 0 2], 42, 1, none⟩),
(84, ⟨[o 94 0 5], 157, 0, none⟩),
(94, ⟨[i 0, i 1, i 2, i 3, i 4], 3, 1, none⟩),
(95, ⟨[.snil, .snil, .snil, .snil, .snil], 162, 0, none⟩),
(96, ⟨[o 147 0 1], 99, 0, none⟩),
(97, ⟨[], 0, 0, some (.map [] 0)⟩),
(98, ⟨[], 0, 0, some (.map [] 1)⟩),
(99, ⟨[.snil, o 288 0 0, .map 98, i 1], 161, 0, none⟩),
(100, ⟨[.ptr 5 0, .ptr 18 0, .ptr 84 0, o 139 0 5, o 142 0 5, o 145 0 5, f 95 0 5, .ptr 96 0, .map 97, .ptr 99 0], 105, 0, none⟩),
e 101 99,
e 104 99,
e 107 99,
(110, ⟨[o 286 0 1], 99, 0, none⟩),
e 116 99,
e 119 99,
e 122 99,
e 125 99,
e 128 99,
e 131 99,
e 134 99,
e 137 99,
(139, ⟨[.ptr 101 0, .ptr 110 0, .ptr 119 0, .ptr 128 0, .ptr 137 0], 96, 1, none⟩),
e 140 99,
(142, ⟨[.ptr 104 0, .ptr 336 0, .ptr 122 0, .ptr 131 0, .ptr 140 0], 96, 1, none⟩),
e 143 99,
(145, ⟨[.ptr 107 0, .ptr 116 0, .ptr 125 0, .ptr 134 0, .ptr 143 0], 96, 1, none⟩),
(147, ⟨[.int .u64 (.ofNat 1)], 229, 1, none⟩),
(286, ⟨[.int .u64 (.ofNat 1)], 229, 1, none⟩),
(288, ⟨[i 0], 3, 1, none⟩),
(335, ⟨[.int .u64 (.ofNat 1)], 229, 1, none⟩),
(336, ⟨[o 335 0 1], 99, 0, none⟩)]
private noncomputable abbrev l2 : Bls := [(339, ⟨[.ptr 5 0, .ptr 100 0, o 507 0 6, o 379 0 1], 178, 0, none⟩),
(342, ⟨[i 0, f 344 0 6], 258, 0, none⟩),
(344, ⟨[.snil, o 350 0 1, o 356 0 1, o 362 0 1, o 368 0 1, o 374 0 1], 42, 0, none⟩),
(350, ⟨[i 0], 3, 1, none⟩),
(356, ⟨[i 1], 3, 1, none⟩),
(362, ⟨[i 2], 3, 1, none⟩),
(368, ⟨[i 3], 3, 1, none⟩),
(374, ⟨[i 4], 3, 1, none⟩),
(379, ⟨[.ptr 342 0], 179, 1, none⟩),
(393, ⟨[], 0, 0, some (.map [] 0)⟩),
(406, ⟨[], 0, 0, some (.map [(0, .agg [i 1, i 0], .c (.bool true)), (1, .agg [i 1, i 1], .c (.bool true))] 2)⟩),
(428, ⟨[], 0, 0, some (.map [(0, .agg [i 1, i 0], .c (.bool true))] 1)⟩),
(451, ⟨[], 0, 0, some (.map [(0, .agg [i 1, i 1], .c (.bool true))] 1)⟩),
(474, ⟨[], 0, 0, some (.map [(0, .agg [i 1, i 0], .c (.bool true))] 1)⟩),
(497, ⟨[], 0, 0, some (.map [] 0)⟩),
(507, ⟨[.map 393, .map 406, .map 428, .map 451, .map 474, .map 497], 181, 1, none⟩)]
private noncomputable abbrev l3 : Bls := [(0, ⟨[.snil, i 0, i 0], 89, 0, none⟩),
(3, ⟨[o 17 0 5, i 3, i 0, i 0, i 0], 41, 0, none⟩),
(4, ⟨[i 0, o 9 0 2, f 3 0 1], 38, 0, none⟩),
(5, ⟨[f 7 0 1, f 0 0 1, .snil, .snil, f 4 0 1, i 0], 34, 0, none⟩),
(6, ⟨[i 0, i 0, i 0, i 0], 26, 0, none⟩),
(7, ⟨[f 6 0 2], 27, 0, none⟩),
(9, ⟨[i 0, i 0, i 1, i 0], 26, 2, none⟩),
(17, ⟨[i 1, i 0, i 0, i 0, i 7, .snil, i 5, i 1, i 0, i 0, i 0, .snil, i 8, i 0, i 1, i 0, i 0, .snil, i 8, i 0, i 1, i 0, i 1, .snil, i 8, i 0, i 1, i 0, i 0, .snil], 44, 6, none⟩),
(18, ⟨[o 26 0 1, o 30 0 1, o 63 0 1, o 54 0 1, o 56 0 1, i 5], 150, 0, none⟩),
(24, ⟨[i 0, i 1], 3, 1, none⟩),
(26, ⟨[o 24 0 2], 42, 1, none⟩),
(30, ⟨[i 2], 3, 1, none⟩),
(54, ⟨[i 1], 3, 1, none⟩),
(56, ⟨[i 0], 3, 1, none⟩),
(61, ⟨[i 3, i 4], 3, 1, none⟩),
(63, ⟨[o 61 0 2], 42, 1, none⟩),
(84, ⟨[o 94 0 5], 157, 0, none⟩),
(94, ⟨[i 0, i 1, i 2, i 3, i 4], 3, 1, none⟩),
(95, ⟨[.snil, .snil, .snil, .snil, .snil], 162, 0, none⟩),
(96, ⟨[o 147 0 1], 99, 0, none⟩),
(97, ⟨[], 0, 0, some (.map [] 0)⟩),
(98, ⟨[], 0, 0, some (.map [] 1)⟩),
(99, ⟨[.snil, o 288 0 0, .map 98, i 1], 161, 0, none⟩),
(100, ⟨[.ptr 5 0, .ptr 18 0, .ptr 84 0, o 139 0 5, o 142 0 5, o 145 0 5, f 95 0 5, .ptr 96 0, .map 97, .ptr 99 0], 105, 0, none⟩),
e 101 99,
e 104 99,
e 107 99,
(110, ⟨[o 286 0 1], 99, 0, none⟩),
e 116 99,
e 119 99,
e 122 99,
e 125 99,
e 128 99,
e 131 99,
e 134 99,
e 137 99,
(139, ⟨[.ptr 101 0, .ptr 110 0, .ptr 119 0, .ptr 128 0, .ptr 137 0], 96, 1, none⟩),
e 140 99,
(142, ⟨[.ptr 104 0, .ptr 336 0, .ptr 122 0, .ptr 131 0, .ptr 140 0], 96, 1, none⟩),
e 143 99,
(145, ⟨[.ptr 107 0, .ptr 116 0, .ptr 125 0, .ptr 134 0, .ptr 143 0], 96, 1, none⟩),
(147, ⟨[.int .u64 (.ofNat 1)], 229, 1, none⟩),
(286, ⟨[.int .u64 (.ofNat 1)], 229, 1, none⟩),
(288, ⟨[i 0], 3, 1, none⟩),
(335, ⟨[.int .u64 (.ofNat 1)], 229, 1, none⟩),
(336, ⟨[o 335 0 1], 99, 0, none⟩)]
private noncomputable def m0 : MM := ⟨[56], l0, 18, [⟨56, 0, [.v (.c (.ptr 5 0))], .v (.c (.nili))⟩]⟩
private theorem m0_k : H0.tbl m0 = true := by kernel_rfl
private noncomputable def h1 : HK := H0.memo m0 m0_k
private noncomputable def m1 : MM := ⟨[91], [(3, ⟨[o 17 0 5, i 3, i 0, i 0, i 0], 41, 0, none⟩),
(4, ⟨[i 0, o 9 0 2, f 3 0 1], 38, 0, none⟩),
(5, ⟨[f 7 0 1, f 0 0 1, .snil, .snil, f 4 0 1, i 0], 34, 0, none⟩)], 45, [⟨91, 0, [.v (.c (.ptr 5 0)), .v (.c (i 0))], .tup [.agg [i 0, i 0, i 0], .c (.bool true)]⟩,
⟨91, 1, [.v (.c (.ptr 5 0)), .v (.c (i 1))], .tup [.agg [i 0, i 0, i 1], .c (.bool true)]⟩,
⟨91, 2, [.v (.c (.ptr 5 0)), .v (.c (i 2))], .tup [.agg [i 0, i 0, i 2], .c (.bool true)]⟩,
⟨91, 3, [.v (.c (.ptr 5 0)), .v (.c (i 3))], .tup [.agg [i 0, i 0, i 3], .c (.bool true)]⟩,
⟨91, 4, [.v (.c (.ptr 5 0)), .v (.c (i 4))], .tup [.agg [i 0, i 0, i 4], .c (.bool true)]⟩,
⟨91, 5, [.v (.c (.ptr 5 0)), .v (.c (i 5))], .tup [.agg [i 0, i 0, i 5], .c (.bool true)]⟩]⟩
private theorem m1_k : h1.tbl m1 = true := by kernel_rfl
private noncomputable def h2 : HK := h1.memo m1 m1_k
private noncomputable def s1 : RE := ⟨35, [.v (.c (.ptr 5 0))], 18, .v (.c (.ptr 18 0)), [(18, ⟨[o 26 0 1, o 30 0 1, o 63 0 1, o 54 0 1, o 56 0 1, i 5], 150, 0, none⟩),
(24, ⟨[i 0, i 1], 3, 1, none⟩),
(26, ⟨[o 24 0 2], 42, 1, none⟩),
(30, ⟨[i 2], 3, 1, none⟩),
(54, ⟨[i 1], 3, 1, none⟩),
(56, ⟨[i 0], 3, 1, none⟩),
(61, ⟨[i 3, i 4], 3, 1, none⟩),
(63, ⟨[o 61 0 2], 42, 1, none⟩)], 84⟩
private theorem s1_k : h2.srp l0 s1 = true := by kernel_rfl
private noncomputable def h3 : HK := h2.srep _ s1 s1_k
private noncomputable def s2 : RE := ⟨9, [.v (.c (.ptr 5 0)), .v (.c (.snil))], 18, .v (.c (.ptr 100 0)), l1, 337⟩
private theorem s2_k : h3.rep l0 s2 = true := by kernel_rfl
private noncomputable def h4 : HK := h3.repl _ s2 s2_k
private noncomputable def s3 : RE := ⟨43, [.v (.c (.ptr 5 0)), .v (.c (.ptr 100 0))], 339, .v (.c (.ptr 339 0)), l2, 508⟩
private theorem s3_k : h4.srp l3 s3 = true := by kernel_rfl
private noncomputable def h5 : HK := h4.srep _ s3 s3_k
private noncomputable def s4 : RE := ⟨11, [.v (.c (.ptr 5 0)), .v (.c (.ptr 100 0)), .v (.c (i 0))], 699, .v (.c (o 787 0 2)), [(787, ⟨[i 1, i 0, i 1, i 1, i 0, i 0, i 0, i 0, i 0, i 0], 48, 2, none⟩)], 876⟩
private theorem s4_k : h5.srp l3 s4 = true := by kernel_rfl
private noncomputable def h6 : HK := h5.srep _ s4 s4_k
theorem MemoryStores_3_0_run : isBool true (runW h6.K 3 [ai (Int.ofNat 3), ai (Int.ofNat 0)] s0) = true := by kernel_rfl
theorem MemoryStores_3_0_law {args : Array Value} (ha : VAs (fun _ => none) [ai (Int.ofNat 3), ai (Int.ofNat 0)] args.toList) (w : World) (hT : Tab w) :
    Calls Tryz.prog 3 args w fun e w' => Below w.heap.size w w' ∧ e = .returned (.bool true) := h6.law MemoryStores_3_0_run ha w hT
theorem MemoryStores_3_1_run : isBool true (runW h6.K 3 [ai (Int.ofNat 3), ai (Int.ofNat 1)] s0) = true := by kernel_rfl
theorem MemoryStores_3_1_law {args : Array Value} (ha : VAs (fun _ => none) [ai (Int.ofNat 3), ai (Int.ofNat 1)] args.toList) (w : World) (hT : Tab w) :
    Calls Tryz.prog 3 args w fun e w' => Below w.heap.size w w' ∧ e = .returned (.bool true) := h6.law MemoryStores_3_1_run ha w hT
theorem MemoryStores_3_2_run : isBool true (runW h6.K 3 [ai (Int.ofNat 3), ai (Int.ofNat 2)] s0) = true := by kernel_rfl
theorem MemoryStores_3_2_law {args : Array Value} (ha : VAs (fun _ => none) [ai (Int.ofNat 3), ai (Int.ofNat 2)] args.toList) (w : World) (hT : Tab w) :
    Calls Tryz.prog 3 args w fun e w' => Below w.heap.size w w' ∧ e = .returned (.bool true) := h6.law MemoryStores_3_2_run ha w hT
theorem MemoryStores_3_3_run : isBool true (runW h6.K 3 [ai (Int.ofNat 3), ai (Int.ofNat 3)] s0) = true := by kernel_rfl
theorem MemoryStores_3_3_law {args : Array Value} (ha : VAs (fun _ => none) [ai (Int.ofNat 3), ai (Int.ofNat 3)] args.toList) (w : World) (hT : Tab w) :
    Calls Tryz.prog 3 args w fun e w' => Below w.heap.size w w' ∧ e = .returned (.bool true) := h6.law MemoryStores_3_3_run ha w hT
theorem MemoryStores_3_neg (j : Nat) : isBool true (runW hkT 3 [ai (Int.ofNat 3), ai (Int.negSucc j)] s0) = true := by kernel_rfl
theorem MemoryStores_3_big (j : Nat) : isBool true (runW hkT 3 [ai (Int.ofNat 3), ai (Int.ofNat (j + 4))] s0) = true := by kernel_rfl
theorem MemoryStores_3_all (w : World) (hT : Tab w) (m : Int) : Calls Tryz.prog 3 #[.int .i64 (Int.ofNat 3), .int .i64 m] w fun e w' => Below w.heap.size w w' ∧ e = .returned (.bool true) := by
  rcases m with m | k
  · by_cases h : 4 ≤ m
    · obtain ⟨k, rfl⟩ : ∃ k, m = k + 4 := ⟨m - 4, by omega⟩
      exact lawT (MemoryStores_3_big k) (by exact ⟨rfl, rfl, trivial⟩) w hT
    · rcases (by omega : m = 0 ∨ m = 1 ∨ m = 2 ∨ m = 3) with rfl | rfl | rfl | rfl
      · exact MemoryStores_3_0_law (by exact ⟨rfl, rfl, trivial⟩) w hT
      · exact MemoryStores_3_1_law (by exact ⟨rfl, rfl, trivial⟩) w hT
      · exact MemoryStores_3_2_law (by exact ⟨rfl, rfl, trivial⟩) w hT
      · exact MemoryStores_3_3_law (by exact ⟨rfl, rfl, trivial⟩) w hT
  · exact lawT (MemoryStores_3_neg k) (by exact ⟨rfl, rfl, trivial⟩) w hT
end Go.Proofs.YtjbnkokcbhfdgabGreatDoor
