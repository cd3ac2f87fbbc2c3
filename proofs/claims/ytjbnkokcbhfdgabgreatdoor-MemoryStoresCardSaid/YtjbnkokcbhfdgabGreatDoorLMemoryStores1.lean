/- Tables of calls, and a run that uses them. -/
import Derived.Test.YtjbnkokcbhfdgabGreatDoorLn22
namespace Go.Proofs.YtjbnkokcbhfdgabGreatDoor
open Go Go.RowKit Ev
set_option maxRecDepth 100000
set_option linter.unusedVariables false
private noncomputable abbrev i (n : Nat) : CV := .int .i64 (.ofNat n)
private noncomputable abbrev o (b a n : Nat) : CV := .slice b a n (.opn 0)
private noncomputable abbrev f (b a n : Nat) : CV := .slice b a n (.fix n)
private noncomputable abbrev e (k t : Nat) : Nat × BK := (k, ⟨[.snil], t, 0, none⟩)
private noncomputable abbrev l0 : Bls := [(0, ⟨[.snil, i 0, i 0], 89, 0, none⟩),
(3, ⟨[o 13 0 3, i 3, i 0, i 0, i 0], 41, 0, none⟩),
(4, ⟨[i 0, o 9 0 2, f 3 0 1], 38, 0, none⟩),
(5, ⟨[f 7 0 1, f 0 0 1, .snil, .snil, f 4 0 1, i 0], 34, 0, none⟩),
(6, ⟨[i 0, i 0, i 0, i 0], 26, 0, none⟩),
(7, ⟨[f 6 0 2], 27, 0, none⟩),
(9, ⟨[i 0, i 0, i 1, i 0], 26, 2, none⟩),
(13, ⟨[i 1, i 0, i 0, i 0, i 7, .snil, i 5, i 1, i 0, i 0, i 0, .snil, i 8, i 0, i 1, i 0, i 0, .snil], 44, 6, none⟩)]
private noncomputable abbrev l1 : Bls := [(14, ⟨[o 22 0 1, o 26 0 1, o 55 0 1, o 46 0 1, o 48 0 1, i 5], 150, 0, none⟩),
(20, ⟨[i 0, i 1], 3, 1, none⟩),
(22, ⟨[o 20 0 2], 42, 1, none⟩),
(26, ⟨[i 2], 3, 1, none⟩),
(46, ⟨[i 1], 3, 1, none⟩),
(48, ⟨[i 0], 3, 1, none⟩),
(53, ⟨[i 3, i 4], 3, 1, none⟩),
(55, ⟨[o 53 0 2], 42, 1, none⟩),
(66, ⟨[o 76 0 5], 157, 0, none⟩),
(76, ⟨[i 0, i 1, i 2, i 3, i 4], 3, 1, none⟩),
(77, ⟨[.snil, .snil, .snil, .snil, .snil], 162, 0, none⟩),
(78, ⟨[o 129 0 1], 99, 0, none⟩),
(79, ⟨[], 0, 0, some (.map [] 0)⟩),
(80, ⟨[], 0, 0, some (.map [] 1)⟩),
(81, ⟨[.snil, o 236 0 0, .map 80, i 1], 161, 0, none⟩),
(82, ⟨[.ptr 5 0, .ptr 14 0, .ptr 66 0, o 121 0 5, o 124 0 5, o 127 0 5, f 77 0 5, .ptr 78 0, .map 79, .ptr 81 0], 105, 0, none⟩),
e 83 99,
e 86 99,
e 89 99,
(92, ⟨[o 234 0 1], 99, 0, none⟩),
e 98 99,
e 101 99,
e 104 99,
e 107 99,
e 110 99,
e 113 99,
e 116 99,
e 119 99,
(121, ⟨[.ptr 83 0, .ptr 92 0, .ptr 101 0, .ptr 110 0, .ptr 119 0], 96, 1, none⟩),
e 122 99,
(124, ⟨[.ptr 86 0, .ptr 270 0, .ptr 104 0, .ptr 113 0, .ptr 122 0], 96, 1, none⟩),
e 125 99,
(127, ⟨[.ptr 89 0, .ptr 98 0, .ptr 107 0, .ptr 116 0, .ptr 125 0], 96, 1, none⟩),
(129, ⟨[.int .u64 (.ofNat 1)], 229, 1, none⟩),
(234, ⟨[.int .u64 (.ofNat 1)], 229, 1, none⟩),
(236, ⟨[i 0], 3, 1, none⟩),
(269, ⟨[.int .u64 (.ofNat 1)], 229, 1, none⟩),
(270, ⟨[o 269 0 1], 99, 0, none⟩)]
private noncomputable abbrev l2 : Bls := [(273, ⟨[.ptr 5 0, .ptr 82 0, o 379 0 4, o 301 0 1], 178, 0, none⟩),
(276, ⟨[i 0, f 278 0 4], 258, 0, none⟩),
(278, ⟨[.snil, o 284 0 1, o 290 0 1, o 296 0 1], 42, 0, none⟩),
(284, ⟨[i 0], 3, 1, none⟩),
(290, ⟨[i 1], 3, 1, none⟩),
(296, ⟨[i 2], 3, 1, none⟩),
(301, ⟨[.ptr 276 0], 179, 1, none⟩),
(311, ⟨[], 0, 0, some (.map [] 0)⟩),
(324, ⟨[], 0, 0, some (.map [(0, .agg [i 1, i 0], .c (.bool true)), (1, .agg [i 1, i 1], .c (.bool true))] 2)⟩),
(346, ⟨[], 0, 0, some (.map [(0, .agg [i 1, i 0], .c (.bool true))] 1)⟩),
(369, ⟨[], 0, 0, some (.map [] 0)⟩),
(379, ⟨[.map 311, .map 324, .map 346, .map 369], 181, 1, none⟩)]
private noncomputable abbrev l3 : Bls := [(0, ⟨[.snil, i 0, i 0], 89, 0, none⟩),
(3, ⟨[o 13 0 3, i 3, i 0, i 0, i 0], 41, 0, none⟩),
(4, ⟨[i 0, o 9 0 2, f 3 0 1], 38, 0, none⟩),
(5, ⟨[f 7 0 1, f 0 0 1, .snil, .snil, f 4 0 1, i 0], 34, 0, none⟩),
(6, ⟨[i 0, i 0, i 0, i 0], 26, 0, none⟩),
(7, ⟨[f 6 0 2], 27, 0, none⟩),
(9, ⟨[i 0, i 0, i 1, i 0], 26, 2, none⟩),
(13, ⟨[i 1, i 0, i 0, i 0, i 7, .snil, i 5, i 1, i 0, i 0, i 0, .snil, i 8, i 0, i 1, i 0, i 0, .snil], 44, 6, none⟩),
(14, ⟨[o 22 0 1, o 26 0 1, o 55 0 1, o 46 0 1, o 48 0 1, i 5], 150, 0, none⟩),
(20, ⟨[i 0, i 1], 3, 1, none⟩),
(22, ⟨[o 20 0 2], 42, 1, none⟩),
(26, ⟨[i 2], 3, 1, none⟩),
(46, ⟨[i 1], 3, 1, none⟩),
(48, ⟨[i 0], 3, 1, none⟩),
(53, ⟨[i 3, i 4], 3, 1, none⟩),
(55, ⟨[o 53 0 2], 42, 1, none⟩),
(66, ⟨[o 76 0 5], 157, 0, none⟩),
(76, ⟨[i 0, i 1, i 2, i 3, i 4], 3, 1, none⟩),
(77, ⟨[.snil, .snil, .snil, .snil, .snil], 162, 0, none⟩),
(78, ⟨[o 129 0 1], 99, 0, none⟩),
(79, ⟨[], 0, 0, some (.map [] 0)⟩),
(80, ⟨[], 0, 0, some (.map [] 1)⟩),
(81, ⟨[.snil, o 236 0 0, .map 80, i 1], 161, 0, none⟩),
(82, ⟨[.ptr 5 0, .ptr 14 0, .ptr 66 0, o 121 0 5, o 124 0 5, o 127 0 5, f 77 0 5, .ptr 78 0, .map 79, .ptr 81 0], 105, 0, none⟩),
e 83 99,
e 86 99,
e 89 99,
(92, ⟨[o 234 0 1], 99, 0, none⟩),
e 98 99,
e 101 99,
e 104 99,
e 107 99,
e 110 99,
e 113 99,
e 116 99,
e 119 99,
(121, ⟨[.ptr 83 0, .ptr 92 0, .ptr 101 0, .ptr 110 0, .ptr 119 0], 96, 1, none⟩),
e 122 99,
(124, ⟨[.ptr 86 0, .ptr 270 0, .ptr 104 0, .ptr 113 0, .ptr 122 0], 96, 1, none⟩),
e 125 99,
(127, ⟨[.ptr 89 0, .ptr 98 0, .ptr 107 0, .ptr 116 0, .ptr 125 0], 96, 1, none⟩),
(129, ⟨[.int .u64 (.ofNat 1)], 229, 1, none⟩),
(234, ⟨[.int .u64 (.ofNat 1)], 229, 1, none⟩),
(236, ⟨[i 0], 3, 1, none⟩),
(269, ⟨[.int .u64 (.ofNat 1)], 229, 1, none⟩),
(270, ⟨[o 269 0 1], 99, 0, none⟩)]
private noncomputable def m0 : MM := ⟨[56], l0, 14, [⟨56, 0, [.v (.c (.ptr 5 0))], .v (.c (.nili))⟩]⟩
private theorem m0_k : H0.tbl m0 = true := by kernel_rfl
private noncomputable def h1 : HK := H0.memo m0 m0_k
private noncomputable def m1 : MM := ⟨[91], [(3, ⟨[o 13 0 3, i 3, i 0, i 0, i 0], 41, 0, none⟩),
(4, ⟨[i 0, o 9 0 2, f 3 0 1], 38, 0, none⟩),
(5, ⟨[f 7 0 1, f 0 0 1, .snil, .snil, f 4 0 1, i 0], 34, 0, none⟩)], 37, [⟨91, 0, [.v (.c (.ptr 5 0)), .v (.c (i 0))], .tup [.agg [i 0, i 0, i 0], .c (.bool true)]⟩,
⟨91, 1, [.v (.c (.ptr 5 0)), .v (.c (i 1))], .tup [.agg [i 0, i 0, i 1], .c (.bool true)]⟩,
⟨91, 2, [.v (.c (.ptr 5 0)), .v (.c (i 2))], .tup [.agg [i 0, i 0, i 2], .c (.bool true)]⟩,
⟨91, 3, [.v (.c (.ptr 5 0)), .v (.c (i 3))], .tup [.agg [i 0, i 0, i 3], .c (.bool true)]⟩]⟩
private theorem m1_k : h1.tbl m1 = true := by kernel_rfl
private noncomputable def h2 : HK := h1.memo m1 m1_k
private noncomputable def s1 : RE := ⟨35, [.v (.c (.ptr 5 0))], 14, .v (.c (.ptr 14 0)), [(14, ⟨[o 22 0 1, o 26 0 1, o 55 0 1, o 46 0 1, o 48 0 1, i 5], 150, 0, none⟩),
(20, ⟨[i 0, i 1], 3, 1, none⟩),
(22, ⟨[o 20 0 2], 42, 1, none⟩),
(26, ⟨[i 2], 3, 1, none⟩),
(46, ⟨[i 1], 3, 1, none⟩),
(48, ⟨[i 0], 3, 1, none⟩),
(53, ⟨[i 3, i 4], 3, 1, none⟩),
(55, ⟨[o 53 0 2], 42, 1, none⟩)], 66⟩
private theorem s1_k : h2.srp l0 s1 = true := by kernel_rfl
private noncomputable def h3 : HK := h2.srep _ s1 s1_k
private noncomputable def s2 : RE := ⟨9, [.v (.c (.ptr 5 0)), .v (.c (.snil))], 14, .v (.c (.ptr 82 0)), l1, 271⟩
private theorem s2_k : h3.rep l0 s2 = true := by kernel_rfl
private noncomputable def h4 : HK := h3.repl _ s2 s2_k
private noncomputable def s3 : RE := ⟨43, [.v (.c (.ptr 5 0)), .v (.c (.ptr 82 0))], 273, .v (.c (.ptr 273 0)), l2, 380⟩
private theorem s3_k : h4.srp l3 s3 = true := by kernel_rfl
private noncomputable def h5 : HK := h4.srep _ s3 s3_k
private noncomputable def s4 : RE := ⟨11, [.v (.c (.ptr 5 0)), .v (.c (.ptr 82 0)), .v (.c (i 0))], 509, .v (.c (o 563 0 2)), [(563, ⟨[i 1, i 0, i 1, i 1, i 0, i 0], 48, 2, none⟩)], 626⟩
private theorem s4_k : h5.srp l3 s4 = true := by kernel_rfl
private noncomputable def h6 : HK := h5.srep _ s4 s4_k
theorem MemoryStores_1_0_run : isBool true (runW h6.K 3 [ai (Int.ofNat 1), ai (Int.ofNat 0)] s0) = true := by kernel_rfl
theorem MemoryStores_1_0_law {args : Array Value} (ha : VAs (fun _ => none) [ai (Int.ofNat 1), ai (Int.ofNat 0)] args.toList) (w : World) (hT : Tab w) :
    Calls Tryz.prog 3 args w fun e w' => Below w.heap.size w w' ∧ e = .returned (.bool true) := h6.law MemoryStores_1_0_run ha w hT
theorem MemoryStores_1_1_run : isBool true (runW h6.K 3 [ai (Int.ofNat 1), ai (Int.ofNat 1)] s0) = true := by kernel_rfl
theorem MemoryStores_1_1_law {args : Array Value} (ha : VAs (fun _ => none) [ai (Int.ofNat 1), ai (Int.ofNat 1)] args.toList) (w : World) (hT : Tab w) :
    Calls Tryz.prog 3 args w fun e w' => Below w.heap.size w w' ∧ e = .returned (.bool true) := h6.law MemoryStores_1_1_run ha w hT
theorem MemoryStores_1_neg (j : Nat) : isBool true (runW hkT 3 [ai (Int.ofNat 1), ai (Int.negSucc j)] s0) = true := by kernel_rfl
theorem MemoryStores_1_big (j : Nat) : isBool true (runW hkT 3 [ai (Int.ofNat 1), ai (Int.ofNat (j + 2))] s0) = true := by kernel_rfl
theorem MemoryStores_1_all (w : World) (hT : Tab w) (m : Int) : Calls Tryz.prog 3 #[.int .i64 (Int.ofNat 1), .int .i64 m] w fun e w' => Below w.heap.size w w' ∧ e = .returned (.bool true) := by
  rcases m with m | k
  · by_cases h : 2 ≤ m
    · obtain ⟨k, rfl⟩ : ∃ k, m = k + 2 := ⟨m - 2, by omega⟩
      exact lawT (MemoryStores_1_big k) (by exact ⟨rfl, rfl, trivial⟩) w hT
    · rcases (by omega : m = 0 ∨ m = 1) with rfl | rfl
      · exact MemoryStores_1_0_law (by exact ⟨rfl, rfl, trivial⟩) w hT
      · exact MemoryStores_1_1_law (by exact ⟨rfl, rfl, trivial⟩) w hT
  · exact lawT (MemoryStores_1_neg k) (by exact ⟨rfl, rfl, trivial⟩) w hT
end Go.Proofs.YtjbnkokcbhfdgabGreatDoor
