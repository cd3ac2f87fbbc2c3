/- Tables of calls, and a run that uses them. -/
import Derived.Test.YtjbnkokcbhfdgabGreatDoorLn22
namespace Go.Proofs.YtjbnkokcbhfdgabGreatDoor
open Go Go.RowKit Ev
set_option maxRecDepth 100000
set_option linter.unusedVariables false
private noncomputable abbrev i (n : Nat) : CV := .int .i64 (.ofNat n)
private noncomputable abbrev o (b a n : Nat) : CV := .slice b a n (.opn 0)
private noncomputable abbrev f (b a n : Nat) : CV := .slice b a n (.fix n)
private noncomputable abbrev e (k t : Nat) : Nat × BK := (k, ⟨[.snil], t, 0, none⟩)
private noncomputable abbrev l0 : Bls := [(0, ⟨[.snil, i 0, i 0], 89, 0, none⟩),
(3, ⟨[o 15 0 4, i 3, i 0, i 0, i 0], 41, 0, none⟩),
(4, ⟨[i 0, o 9 0 2, f 3 0 1], 38, 0, none⟩),
(5, ⟨[f 7 0 1, f 0 0 1, .snil, .snil, f 4 0 1, i 0], 34, 0, none⟩),
(6, ⟨[i 0, i 0, i 0, i 0], 26, 0, none⟩),
(7, ⟨[f 6 0 2], 27, 0, none⟩),
(9, ⟨[i 0, i 0, i 1, i 0], 26, 2, none⟩),
(15, ⟨[i 1, i 0, i 0, i 0, i 7, .snil, i 5, i 1, i 0, i 0, i 0, .snil, i 8, i 0, i 1, i 0, i 0, .snil, i 8, i 0, i 1, i 0, i 1, .snil], 44, 6, none⟩)]
private noncomputable abbrev l1 : Bls := [(16, ⟨[o 24 0 1, o 28 0 1, o 59 0 1, o 50 0 1, o 52 0 1, i 5], 150, 0, none⟩),
(22, ⟨[i 0, i 1], 3, 1, none⟩),
(24, ⟨[o 22 0 2], 42, 1, none⟩),
(28, ⟨[i 2], 3, 1, none⟩),
(50, ⟨[i 1], 3, 1, none⟩),
(52, ⟨[i 0], 3, 1, none⟩),
(57, ⟨[i 3, i 4], 3, 1, none⟩),
(59, ⟨[o 57 0 2], 42, 1, none⟩),
(75, ⟨[o 85 0 5], 157, 0, none⟩),
(85, ⟨[i 0, i 1, i 2, i 3, i 4], 3, 1, none⟩),
(86, ⟨[.snil, .snil, .snil, .snil, .snil], 162, 0, none⟩),
(87, ⟨[o 138 0 1], 99, 0, none⟩),
(88, ⟨[], 0, 0, some (.map [] 0)⟩),
(89, ⟨[], 0, 0, some (.map [] 1)⟩),
(90, ⟨[.snil, o 262 0 0, .map 89, i 1], 161, 0, none⟩),
(91, ⟨[.ptr 5 0, .ptr 16 0, .ptr 75 0, o 130 0 5, o 133 0 5, o 136 0 5, f 86 0 5, .ptr 87 0, .map 88, .ptr 90 0], 105, 0, none⟩),
e 92 99,
e 95 99,
e 98 99,
(101, ⟨[o 260 0 1], 99, 0, none⟩),
e 107 99,
e 110 99,
e 113 99,
e 116 99,
e 119 99,
e 122 99,
e 125 99,
e 128 99,
(130, ⟨[.ptr 92 0, .ptr 101 0, .ptr 110 0, .ptr 119 0, .ptr 128 0], 96, 1, none⟩),
e 131 99,
(133, ⟨[.ptr 95 0, .ptr 303 0, .ptr 113 0, .ptr 122 0, .ptr 131 0], 96, 1, none⟩),
e 134 99,
(136, ⟨[.ptr 98 0, .ptr 107 0, .ptr 116 0, .ptr 125 0, .ptr 134 0], 96, 1, none⟩),
(138, ⟨[.int .u64 (.ofNat 1)], 229, 1, none⟩),
(260, ⟨[.int .u64 (.ofNat 1)], 229, 1, none⟩),
(262, ⟨[i 0], 3, 1, none⟩),
(302, ⟨[.int .u64 (.ofNat 1)], 229, 1, none⟩),
(303, ⟨[o 302 0 1], 99, 0, none⟩)]
private noncomputable abbrev l2 : Bls := [(306, ⟨[.ptr 5 0, .ptr 91 0, o 443 0 5, o 340 0 1], 178, 0, none⟩),
(309, ⟨[i 0, f 311 0 5], 258, 0, none⟩),
(311, ⟨[.snil, o 317 0 1, o 323 0 1, o 329 0 1, o 335 0 1], 42, 0, none⟩),
(317, ⟨[i 0], 3, 1, none⟩),
(323, ⟨[i 1], 3, 1, none⟩),
(329, ⟨[i 2], 3, 1, none⟩),
(335, ⟨[i 3], 3, 1, none⟩),
(340, ⟨[.ptr 309 0], 179, 1, none⟩),
(352, ⟨[], 0, 0, some (.map [] 0)⟩),
(365, ⟨[], 0, 0, some (.map [(0, .agg [i 1, i 0], .c (.bool true)), (1, .agg [i 1, i 1], .c (.bool true))] 2)⟩),
(387, ⟨[], 0, 0, some (.map [(0, .agg [i 1, i 0], .c (.bool true))] 1)⟩),
(410, ⟨[], 0, 0, some (.map [(0, .agg [i 1, i 1], .c (.bool true))] 1)⟩),
(433, ⟨[], 0, 0, some (.map [] 0)⟩),
(443, ⟨[.map 352, .map 365, .map 387, .map 410, .map 433], 181, 1, none⟩)]
private noncomputable abbrev l3 : Bls := [(0, ⟨[.snil, i 0, i 0], 89, 0, none⟩),
(3, ⟨[o 15 0 4, i 3, i 0, i 0, i 0], 41, 0, none⟩),
(4, ⟨[i 0, o 9 0 2, f 3 0 1], 38, 0, none⟩),
(5, ⟨[f 7 0 1, f 0 0 1, .snil, .snil, f 4 0 1, i 0], 34, 0, none⟩),
(6, ⟨[i 0, i 0, i 0, i 0], 26, 0, none⟩),
(7, ⟨[f 6 0 2], 27, 0, none⟩),
(9, ⟨[i 0, i 0, i 1, i 0], 26, 2, none⟩),
(15, ⟨[i 1, i 0, i 0, i 0, i 7, .snil, i 5, i 1, i 0, i 0, i 0, .snil, i 8, i 0, i 1, i 0, i 0, .snil, i 8, i 0, i 1, i 0, i 1, .snil], 44, 6, none⟩),
(16, ⟨[o 24 0 1, o 28 0 1, o 59 0 1, o 50 0 1, o 52 0 1, i 5], 150, 0, none⟩),
(22, ⟨[i 0, i 1], 3, 1, none⟩),
(24, ⟨[o 22 0 2], 42, 1, none⟩),
(28, ⟨[i 2], 3, 1, none⟩),
(50, ⟨[i 1], 3, 1, none⟩),
(52, ⟨[i 0], 3, 1, none⟩),
(57, ⟨[i 3, i 4], 3, 1, none⟩),
(59, ⟨[o 57 0 2], 42, 1, none⟩),
(75, ⟨[o 85 0 5], 157, 0, none⟩),
(85, ⟨[i 0, i 1, i 2, i 3, i 4], 3, 1, none⟩),
(86, ⟨[.snil, .snil, .snil, .snil, .snil], 162, 0, none⟩),
(87, ⟨[o 138 0 1], 99, 0, none⟩),
(88, ⟨[], 0, 0, some (.map [] 0)⟩),
(89, ⟨[], 0, 0, some (.map [] 1)⟩),
(90, ⟨[.snil, o 262 0 0, .map 89, i 1], 161, 0, none⟩),
(91, ⟨[.ptr 5 0, .ptr 16 0, .ptr 75 0, o 130 0 5, o 133 0 5, o 136 0 5, f 86 0 5, .ptr 87 0, .map 88, .ptr 90 0], 105, 0, none⟩),
e 92 99,
e 95 99,
e 98 99,
(101, ⟨[o 260 0 1], 99, 0, none⟩),
e 107 99,
e 110 99,
e 113 99,
e 116 99,
e 119 99,
e 122 99,
e 125 99,
e 128 99,
(130, ⟨[.ptr 92 0, .ptr 101 0, .ptr 110 0, .ptr 119 0, .ptr 128 0], 96, 1, none⟩),
e 131 99,
(133, ⟨[.ptr 95 0, .ptr 303 0, .ptr 113 0, .ptr 122 0, .ptr 131 0], 96, 1, none⟩),
e 134 99,
(136, ⟨[.ptr 98 0, .ptr 107 0, .ptr 116 0, .ptr 125 0, .ptr 134 0], 96, 1, none⟩),
(138, ⟨[.int .u64 (.ofNat 1)], 229, 1, none⟩),
(260, ⟨[.int .u64 (.ofNat 1)], 229, 1, none⟩),
(262, ⟨[i 0], 3, 1, none⟩),
(302, ⟨[.int .u64 (.ofNat 1)], 229, 1, none⟩),
(303, ⟨[o 302 0 1], 99, 0, none⟩)]
private noncomputable def m0 : MM := ⟨[56], l0, 16, [⟨56, 0, [.v (.c (.ptr 5 0))], .v (.c (.nili))⟩]⟩
private theorem m0_k : H0.tbl m0 = true := by kernel_rfl
private noncomputable def h1 : HK := H0.memo m0 m0_k
private noncomputable def m1 : MM := ⟨[91], [(3, ⟨[o 15 0 4, i 3, i 0, i 0, i 0], 41, 0, none⟩),
(4, ⟨[i 0, o 9 0 2, f 3 0 1], 38, 0, none⟩),
(5, ⟨[f 7 0 1, f 0 0 1, .snil, .snil, f 4 0 1, i 0], 34, 0, none⟩)], 41, [⟨91, 0, [.v (.c (.ptr 5 0)), .v (.c (i 0))], .tup [.agg [i 0, i 0, i 0], .c (.bool true)]⟩,
⟨91, 1, [.v (.c (.ptr 5 0)), .v (.c (i 1))], .tup [.agg [i 0, i 0, i 1], .c (.bool true)]⟩,
⟨91, 2, [.v (.c (.ptr 5 0)), .v (.c (i 2))], .tup [.agg [i 0, i 0, i 2], .c (.bool true)]⟩,
⟨91, 3, [.v (.c (.ptr 5 0)), .v (.c (i 3))], .tup [.agg [i 0, i 0, i 3], .c (.bool true)]⟩,
⟨91, 4, [.v (.c (.ptr 5 0)), .v (.c (i 4))], .tup [.agg [i 0, i 0, i 4], .c (.bool true)]⟩]⟩
private theorem m1_k : h1.tbl m1 = true := by kernel_rfl
private noncomputable def h2 : HK := h1.memo m1 m1_k
private noncomputable def s1 : RE := ⟨35, [.v (.c (.ptr 5 0))], 16, .v (.c (.ptr 16 0)), [(16, ⟨[o 24 0 1, o 28 0 1, o 59 0 1, o 50 0 1, o 52 0 1, i 5], 150, 0, none⟩),
(22, ⟨[i 0, i 1], 3, 1, none⟩),
(24, ⟨[o 22 0 2], 42, 1, none⟩),
(28, ⟨[i 2], 3, 1, none⟩),
(50, ⟨[i 1], 3, 1, none⟩),
(52, ⟨[i 0], 3, 1, none⟩),
(57, ⟨[i 3, i 4], 3, 1, none⟩),
(59, ⟨[o 57 0 2], 42, 1, none⟩)], 75⟩
private theorem s1_k : h2.srp l0 s1 = true := by kernel_rfl
private noncomputable def h3 : HK := h2.srep _ s1 s1_k
private noncomputable def s2 : RE := ⟨9, [.v (.c (.ptr 5 0)), .v (.c (.snil))], 16, .v (.c (.ptr 91 0)), l1, 304⟩
private theorem s2_k : h3.rep l0 s2 = true := by kernel_rfl
private noncomputable def h4 : HK := h3.repl _ s2 s2_k
private noncomputable def s3 : RE := ⟨43, [.v (.c (.ptr 5 0)), .v (.c (.ptr 91 0))], 306, .v (.c (.ptr 306 0)), l2, 444⟩
private theorem s3_k : h4.srp l3 s3 = true := by kernel_rfl
private noncomputable def h5 : HK := h4.srep _ s3 s3_k
private noncomputable def s4 : RE := ⟨11, [.v (.c (.ptr 5 0)), .v (.c (.ptr 91 0)), .v (.c (i 0))], 604, .v (.c (o 675 0 2)), [(675, ⟨[i 1, i 0, i 1, i 1, i 0, i 0, i 0, i 0], 48, 2, none⟩)], 748⟩
private theorem s4_k : h5.srp l3 s4 = true := by kernel_rfl
private noncomputable def h6 : HK := h5.srep _ s4 s4_k
theorem MemoryStores_2_0_run : isBool true (runW h6.K 3 [ai (Int.ofNat 2), ai (Int.ofNat 0)] s0) = true := by kernel_rfl
theorem MemoryStores_2_0_law {args : Array Value} (ha : VAs (fun _ => none) [ai (Int.ofNat 2), ai (Int.ofNat 0)] args.toList) (w : World) (hT : Tab w) :
    Calls Tryz.prog 3 args w fun e w' => Below w.heap.size w w' ∧ e = .returned (.bool true) := h6.law MemoryStores_2_0_run ha w hT
theorem MemoryStores_2_1_run : isBool true (runW h6.K 3 [ai (Int.ofNat 2), ai (Int.ofNat 1)] s0) = true := by kernel_rfl
theorem MemoryStores_2_1_law {args : Array Value} (ha : VAs (fun _ => none) [ai (Int.ofNat 2), ai (Int.ofNat 1)] args.toList) (w : World) (hT : Tab w) :
    Calls Tryz.prog 3 args w fun e w' => Below w.heap.size w w' ∧ e = .returned (.bool true) := h6.law MemoryStores_2_1_run ha w hT
theorem MemoryStores_2_2_run : isBool true (runW h6.K 3 [ai (Int.ofNat 2), ai (Int.ofNat 2)] s0) = true := by kernel_rfl
theorem MemoryStores_2_2_law {args : Array Value} (ha : VAs (fun _ => none) [ai (Int.ofNat 2), ai (Int.ofNat 2)] args.toList) (w : World) (hT : Tab w) :
    Calls Tryz.prog 3 args w fun e w' => Below w.heap.size w w' ∧ e = .returned (.bool true) := h6.law MemoryStores_2_2_run ha w hT
theorem MemoryStores_2_neg (j : Nat) : isBool true (runW hkT 3 [ai (Int.ofNat 2), ai (Int.negSucc j)] s0) = true := by kernel_rfl
theorem MemoryStores_2_big (j : Nat) : isBool true (runW hkT 3 [ai (Int.ofNat 2), ai (Int.ofNat (j + 3))] s0) = true := by kernel_rfl
theorem MemoryStores_2_all (w : World) (hT : Tab w) (m : Int) : Calls Tryz.prog 3 #[.int .i64 (Int.ofNat 2), .int .i64 m] w fun e w' => Below w.heap.size w w' ∧ e = .returned (.bool true) := by
  rcases m with m | k
  · by_cases h : 3 ≤ m
    · obtain ⟨k, rfl⟩ : ∃ k, m = k + 3 := ⟨m - 3, by omega⟩
      exact lawT (MemoryStores_2_big k) (by exact ⟨rfl, rfl, trivial⟩) w hT
    · rcases (by omega : m = 0 ∨ m = 1 ∨ m = 2) with rfl | rfl | rfl
      · exact MemoryStores_2_0_law (by exact ⟨rfl, rfl, trivial⟩) w hT
      · exact MemoryStores_2_1_law (by exact ⟨rfl, rfl, trivial⟩) w hT
      · exact MemoryStores_2_2_law (by exact ⟨rfl, rfl, trivial⟩) w hT
  · exact lawT (MemoryStores_2_neg k) (by exact ⟨rfl, rfl, trivial⟩) w hT
end Go.Proofs.YtjbnkokcbhfdgabGreatDoor
