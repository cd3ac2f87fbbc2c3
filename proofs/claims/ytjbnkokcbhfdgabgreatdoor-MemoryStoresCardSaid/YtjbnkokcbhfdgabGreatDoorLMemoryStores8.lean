/- Tables of calls, and a run that uses them. -/
import Derived.Test.YtjbnkokcbhfdgabGreatDoorLn22
namespace Go.Proofs.YtjbnkokcbhfdgabGreatDoor
open Go Go.RowKit Ev
set_option maxRecDepth 100000
set_option linter.unusedVariables false
private noncomputable abbrev i (n : Nat) : CV := .int .i64 (.ofNat n)
private noncomputable abbrev o (b a n : Nat) : CV := .slice b a n (.opn 0)
private noncomputable abbrev f (b a n : Nat) : CV := .slice b a n (.fix n)
private noncomputable abbrev e (k t : Nat) : Nat × BK := (k, ⟨[.snil], t, 0, none⟩)
private noncomputable abbrev l0 : Bls := [(0, ⟨[.snil, i 0, i 0], 89, 0, none⟩),
(3, ⟨[o 27 0 10, i 3, i 0, i 0, i 0], 41, 0, none⟩),
(4, ⟨[i 0, o 9 0 2, f 3 0 1], 38, 0, none⟩),
(5, ⟨[f 7 0 1, f 0 0 1, .snil, .snil, f 4 0 1, i 0], 34, 0, none⟩),
(6, ⟨[i 0, i 0, i 0, i 0], 26, 0, none⟩),
(7, ⟨[f 6 0 2], 27, 0, none⟩),
(9, ⟨[i 0, i 0, i 1, i 0], 26, 2, none⟩),
(27, ⟨[i 1, i 0, i 0, i 0, i 7, .snil, i 5, i 1, i 0, i 0, i 0, .snil, i 8, i 0, i 1, i 0, i 0, .snil, i 8, i 0, i 1, i 0, i 1, .snil, i 8, i 0, i 1, i 0, i 0, .snil, i 8, i 0, i 1, i 0, i 1, .snil, i 8, i 0, i 1, i 0, i 0, .snil, i 8, i 0, i 1, i 0, i 1, .snil, i 8, i 0, i 1, i 0, i 0, .snil, i 8, i 0, i 1, i 0, i 1, .snil], 44, 6, none⟩)]
private noncomputable abbrev l1 : Bls := [(28, ⟨[o 36 0 1, o 40 0 1, o 83 0 1, o 74 0 1, o 76 0 1, i 5], 150, 0, none⟩),
(34, ⟨[i 0, i 1], 3, 1, none⟩),
(36, ⟨[o 34 0 2], 42, 1, none⟩),
(40, ⟨[i 2], 3, 1, none⟩),
(74, ⟨[i 1], 3, 1, none⟩),
(76, ⟨[i 0], 3, 1, none⟩),
(81, ⟨[i 3, i 4], 3, 1, none⟩),
(83, ⟨[o 81 0 2], 42, 1, none⟩),
(129, ⟨[o 139 0 5], 157, 0, none⟩),
(139, ⟨[i 0, i 1, i 2, i 3, i 4], 3, 1, none⟩),
(140, ⟨[.snil, .snil, .snil, .snil, .snil], 162, 0, none⟩),
(141, ⟨[o 192 0 1], 99, 0, none⟩),
(142, ⟨[], 0, 0, some (.map [] 0)⟩),
(143, ⟨[], 0, 0, some (.map [] 1)⟩),
(144, ⟨[.snil, o 418 0 0, .map 143, i 1], 161, 0, none⟩),
(145, ⟨[.ptr 5 0, .ptr 28 0, .ptr 129 0, o 184 0 5, o 187 0 5, o 190 0 5, f 140 0 5, .ptr 141 0, .map 142, .ptr 144 0], 105, 0, none⟩),
e 146 99,
e 149 99,
e 152 99,
(155, ⟨[o 416 0 1], 99, 0, none⟩),
e 161 99,
e 164 99,
e 167 99,
e 170 99,
e 173 99,
e 176 99,
e 179 99,
e 182 99,
(184, ⟨[.ptr 146 0, .ptr 155 0, .ptr 164 0, .ptr 173 0, .ptr 182 0], 96, 1, none⟩),
e 185 99,
(187, ⟨[.ptr 149 0, .ptr 501 0, .ptr 167 0, .ptr 176 0, .ptr 185 0], 96, 1, none⟩),
e 188 99,
(190, ⟨[.ptr 152 0, .ptr 161 0, .ptr 170 0, .ptr 179 0, .ptr 188 0], 96, 1, none⟩),
(192, ⟨[.int .u64 (.ofNat 1)], 229, 1, none⟩),
(416, ⟨[.int .u64 (.ofNat 1)], 229, 1, none⟩),
(418, ⟨[i 0], 3, 1, none⟩),
(500, ⟨[.int .u64 (.ofNat 1)], 229, 1, none⟩),
(501, ⟨[o 500 0 1], 99, 0, none⟩)]
private noncomputable abbrev l2 : Bls := [(504, ⟨[.ptr 5 0, .ptr 145 0, o 827 0 11, o 574 0 1], 178, 0, none⟩),
(507, ⟨[i 0, f 509 0 11], 258, 0, none⟩),
(509, ⟨[.snil, o 515 0 1, o 521 0 1, o 527 0 1, o 533 0 1, o 539 0 1, o 545 0 1, o 551 0 1, o 557 0 1, o 563 0 1, o 569 0 1], 42, 0, none⟩),
(515, ⟨[i 0], 3, 1, none⟩),
(521, ⟨[i 1], 3, 1, none⟩),
(527, ⟨[i 2], 3, 1, none⟩),
(533, ⟨[i 3], 3, 1, none⟩),
(539, ⟨[i 4], 3, 1, none⟩),
(545, ⟨[i 5], 3, 1, none⟩),
(551, ⟨[i 6], 3, 1, none⟩),
(557, ⟨[i 7], 3, 1, none⟩),
(563, ⟨[i 8], 3, 1, none⟩),
(569, ⟨[i 9], 3, 1, none⟩),
(574, ⟨[.ptr 507 0], 179, 1, none⟩),
(598, ⟨[], 0, 0, some (.map [] 0)⟩),
(611, ⟨[], 0, 0, some (.map [(0, .agg [i 1, i 0], .c (.bool true)), (1, .agg [i 1, i 1], .c (.bool true))] 2)⟩),
(633, ⟨[], 0, 0, some (.map [(0, .agg [i 1, i 0], .c (.bool true))] 1)⟩),
(656, ⟨[], 0, 0, some (.map [(0, .agg [i 1, i 1], .c (.bool true))] 1)⟩),
(679, ⟨[], 0, 0, some (.map [(0, .agg [i 1, i 0], .c (.bool true))] 1)⟩),
(702, ⟨[], 0, 0, some (.map [(0, .agg [i 1, i 1], .c (.bool true))] 1)⟩),
(725, ⟨[], 0, 0, some (.map [(0, .agg [i 1, i 0], .c (.bool true))] 1)⟩),
(748, ⟨[], 0, 0, some (.map [(0, .agg [i 1, i 1], .c (.bool true))] 1)⟩),
(771, ⟨[], 0, 0, some (.map [(0, .agg [i 1, i 0], .c (.bool true))] 1)⟩),
(794, ⟨[], 0, 0, some (.map [(0, .agg [i 1, i 1], .c (.bool true))] 1)⟩),
(817, ⟨[], 0, 0, some (.map [] 0)⟩),
(827, ⟨[.map 598, .map 611, .map 633, .map 656, .map 679, .map 702, .map 725, .map 748, .map 771, .map 794, .map 817], 181, 1, none⟩)]
private noncomputable abbrev l3 : Bls := [(0, ⟨[.snil, i 0, i 0], 89, 0, none⟩),
(3, ⟨[o 27 0 10, i 3, i 0, i 0, i 0], 41, 0, none⟩),
(4, ⟨[i 0, o 9 0 2, f 3 0 1], 38, 0, none⟩),
(5, ⟨[f 7 0 1, f 0 0 1, .snil, .snil, f 4 0 1, i 0], 34, 0, none⟩),
(6, ⟨[i 0, i 0, i 0, i 0], 26, 0, none⟩),
(7, ⟨[f 6 0 2], 27, 0, none⟩),
(9, ⟨[i 0, i 0, i 1, i 0], 26, 2, none⟩),
(27, ⟨[i 1, i 0, i 0, i 0, i 7, .snil, i 5, i 1, i 0, i 0, i 0, .snil, i 8, i 0, i 1, i 0, i 0, .snil, i 8, i 0, i 1, i 0, i 1, .snil, i 8, i 0, i 1, i 0, i 0, .snil, i 8, i 0, i 1, i 0, i 1, .snil, i 8, i 0, i 1, i 0, i 0, .snil, i 8, i 0, i 1, i 0, i 1, .snil, i 8, i 0, i 1, i 0, i 0, .snil, i 8, i 0, i 1, i 0, i 1, .snil], 44, 6, none⟩),
(28, ⟨[o 36 0 1, o 40 0 1, o 83 0 1, o 74 0 1, o 76 0 1, i 5], 150, 0, none⟩),
(34, ⟨[i 0, i 1], 3, 1, none⟩),
(36, ⟨[o 34 0 2], 42, 1, none⟩),
(40, ⟨[i 2], 3, 1, none⟩),
(74, ⟨[i 1], 3, 1, none⟩),
(76, ⟨[i 0], 3, 1, none⟩),
(81, ⟨[i 3, i 4], 3, 1, none⟩),
(83, ⟨[o 81 0 2], 42, 1, none⟩),
(129, ⟨[o 139 0 5], 157, 0, none⟩),
(139, ⟨[i 0, i 1, i 2, i 3, i 4], 3, 1, none⟩),
(140, ⟨[.snil, .snil, .snil, .snil, .snil], 162, 0, none⟩),
(141, ⟨[o 192 0 1], 99, 0, none⟩),
(142, ⟨[], 0, 0, some (.map [] 0)⟩),
(143, ⟨[], 0, 0, some (.map [] 1)⟩),
(144, ⟨[.snil, o 418 0 0, .map 143, i 1], 161, 0, none⟩),
(145, ⟨[.ptr 5 0, .ptr 28 0, .ptr 129 0, o 184 0 5, o 187 0 5, o 190 0 5, f 140 0 5, .ptr 141 0, .map 142, .ptr 144 0], 105, 0, none⟩),
e 146 99,
e 149 99,
e 152 99,
(155, ⟨[o 416 0 1], 99, 0, none⟩),
e 161 99,
e 164 99,
e 167 99,
e 170 99,
e 173 99,
e 176 99,
e 179 99,
e 182 99,
(184, ⟨[.ptr 146 0, .ptr 155 0, .ptr 164 0, .ptr 173 0, .ptr 182 0], 96, 1, none⟩),
e 185 99,
(187, ⟨[.ptr 149 0, .ptr 501 0, .ptr 167 0, .ptr 176 0, .ptr 185 0], 96, 1, none⟩),
e 188 99,
(190, ⟨[.ptr 152 0, .ptr 161 0, .ptr 170 0, .ptr 179 0, .ptr 188 0], 96, 1, none⟩),
(192, ⟨[.int .u64 (.ofNat 1)], 229, 1, none⟩),
(416, ⟨[.int .u64 (.ofNat 1)], 229, 1, none⟩),
(418, ⟨[i 0], 3, 1, none⟩),
(500, ⟨[.int .u64 (.ofNat 1)], 229, 1, none⟩),
(501, ⟨[o 500 0 1], 99, 0, none⟩)]
private noncomputable def m0 : MM := ⟨[56], l0, 28, [⟨56, 0, [.v (.c (.ptr 5 0))], .v (.c (.nili))⟩]⟩
private theorem m0_k : H0.tbl m0 = true := by kernel_rfl
private noncomputable def h1 : HK := H0.memo m0 m0_k
private noncomputable def m1 : MM := ⟨[91], [(3, ⟨[o 27 0 10, i 3, i 0, i 0, i 0], 41, 0, none⟩),
(4, ⟨[i 0, o 9 0 2, f 3 0 1], 38, 0, none⟩),
(5, ⟨[f 7 0 1, f 0 0 1, .snil, .snil, f 4 0 1, i 0], 34, 0, none⟩)], 65, [⟨91, 0, [.v (.c (.ptr 5 0)), .v (.c (i 0))], .tup [.agg [i 0, i 0, i 0], .c (.bool true)]⟩,
⟨91, 1, [.v (.c (.ptr 5 0)), .v (.c (i 1))], .tup [.agg [i 0, i 0, i 1], .c (.bool true)]⟩,
⟨91, 2, [.v (.c (.ptr 5 0)), .v (.c (i 2))], .tup [.agg [i 0, i 0, i 2], .c (.bool true)]⟩,
⟨91, 3, [.v (.c (.ptr 5 0)), .v (.c (i 3))], .tup [.agg [i 0, i 0, i 3], .c (.bool true)]⟩,
⟨91, 4, [.v (.c (.ptr 5 0)), .v (.c (i 4))], .tup [.agg [i 0, i 0, i 4], .c (.bool true)]⟩,
⟨91, 5, [.v (.c (.ptr 5 0)), .v (.c (i 5))], .tup [.agg [i 0, i 0, i 5], .c (.bool true)]⟩,
⟨91, 6, [.v (.c (.ptr 5 0)), .v (.c (i 6))], .tup [.agg [i 0, i 0, i 6], .c (.bool true)]⟩,
⟨91, 7, [.v (.c (.ptr 5 0)), .v (.c (i 7))], .tup [.agg [i 0, i 0, i 7], .c (.bool true)]⟩,
⟨91, 8, [.v (.c (.ptr 5 0)), .v (.c (i 8))], .tup [.agg [i 0, i 0, i 8], .c (.bool true)]⟩,
⟨91, 9, [.v (.c (.ptr 5 0)), .v (.c (i 9))], .tup [.agg [i 0, i 0, i 9], .c (.bool true)]⟩,
⟨91, 10, [.v (.c (.ptr 5 0)), .v (.c (i 10))], .tup [.agg [i 0, i 0, i 10], .c (.bool true)]⟩]⟩
private theorem m1_k : h1.tbl m1 = true := by kernel_rfl
private noncomputable def h2 : HK := h1.memo m1 m1_k
private noncomputable def s1 : RE := ⟨35, [.v (.c (.ptr 5 0))], 28, .v (.c (.ptr 28 0)), [(28, ⟨[o 36 0 1, o 40 0 1, o 83 0 1, o 74 0 1, o 76 0 1, i 5], 150, 0, none⟩),
(34, ⟨[i 0, i 1], 3, 1, none⟩),
(36, ⟨[o 34 0 2], 42, 1, none⟩),
(40, ⟨[i 2], 3, 1, none⟩),
(74, ⟨[i 1], 3, 1, none⟩),
(76, ⟨[i 0], 3, 1, none⟩),
(81, ⟨[i 3, i 4], 3, 1, none⟩),
(83, ⟨[o 81 0 2], 42, 1, none⟩)], 129⟩
private theorem s1_k : h2.srp l0 s1 = true := by kernel_rfl
private noncomputable def h3 : HK := h2.srep _ s1 s1_k
private noncomputable def s2 : RE := ⟨9, [.v (.c (.ptr 5 0)), .v (.c (.snil))], 28, .v (.c (.ptr 145 0)), l1, 502⟩
private theorem s2_k : h3.rep l0 s2 = true := by kernel_rfl
private noncomputable def h4 : HK := h3.repl _ s2 s2_k
private noncomputable def s3 : RE := ⟨43, [.v (.c (.ptr 5 0)), .v (.c (.ptr 145 0))], 504, .v (.c (.ptr 504 0)), l2, 828⟩
private theorem s3_k : h4.srp l3 s3 = true := by kernel_rfl
private noncomputable def h5 : HK := h4.srep _ s3 s3_k
private noncomputable def s4 : RE := ⟨11, [.v (.c (.ptr 5 0)), .v (.c (.ptr 145 0)), .v (.c (i 0))], 1174, .v (.c (o 1347 0 2)), [(1347, ⟨[i 1, i 0, i 1, i 1, i 0, i 0, i 0, i 0, i 0, i 0, i 0, i 0, i 0, i 0, i 0, i 0, i 0, i 0, i 0, i 0], 48, 2, none⟩)], 1507⟩
private theorem s4_k : h5.srp l3 s4 = true := by kernel_rfl
private noncomputable def h6 : HK := h5.srep _ s4 s4_k
theorem MemoryStores_8_0_run : isBool true (runW h6.K 3 [ai (Int.ofNat 8), ai (Int.ofNat 0)] s0) = true := by kernel_rfl
theorem MemoryStores_8_0_law {args : Array Value} (ha : VAs (fun _ => none) [ai (Int.ofNat 8), ai (Int.ofNat 0)] args.toList) (w : World) (hT : Tab w) :
    Calls Tryz.prog 3 args w fun e w' => Below w.heap.size w w' ∧ e = .returned (.bool true) := h6.law MemoryStores_8_0_run ha w hT
theorem MemoryStores_8_1_run : isBool true (runW h6.K 3 [ai (Int.ofNat 8), ai (Int.ofNat 1)] s0) = true := by kernel_rfl
theorem MemoryStores_8_1_law {args : Array Value} (ha : VAs (fun _ => none) [ai (Int.ofNat 8), ai (Int.ofNat 1)] args.toList) (w : World) (hT : Tab w) :
    Calls Tryz.prog 3 args w fun e w' => Below w.heap.size w w' ∧ e = .returned (.bool true) := h6.law MemoryStores_8_1_run ha w hT
theorem MemoryStores_8_2_run : isBool true (runW h6.K 3 [ai (Int.ofNat 8), ai (Int.ofNat 2)] s0) = true := by kernel_rfl
theorem MemoryStores_8_2_law {args : Array Value} (ha : VAs (fun _ => none) [ai (Int.ofNat 8), ai (Int.ofNat 2)] args.toList) (w : World) (hT : Tab w) :
    Calls Tryz.prog 3 args w fun e w' => Below w.heap.size w w' ∧ e = .returned (.bool true) := h6.law MemoryStores_8_2_run ha w hT
theorem MemoryStores_8_3_run : isBool true (runW h6.K 3 [ai (Int.ofNat 8), ai (Int.ofNat 3)] s0) = true := by kernel_rfl
theorem MemoryStores_8_3_law {args : Array Value} (ha : VAs (fun _ => none) [ai (Int.ofNat 8), ai (Int.ofNat 3)] args.toList) (w : World) (hT : Tab w) :
    Calls Tryz.prog 3 args w fun e w' => Below w.heap.size w w' ∧ e = .returned (.bool true) := h6.law MemoryStores_8_3_run ha w hT
theorem MemoryStores_8_4_run : isBool true (runW h6.K 3 [ai (Int.ofNat 8), ai (Int.ofNat 4)] s0) = true := by kernel_rfl
theorem MemoryStores_8_4_law {args : Array Value} (ha : VAs (fun _ => none) [ai (Int.ofNat 8), ai (Int.ofNat 4)] args.toList) (w : World) (hT : Tab w) :
    Calls Tryz.prog 3 args w fun e w' => Below w.heap.size w w' ∧ e = .returned (.bool true) := h6.law MemoryStores_8_4_run ha w hT
theorem MemoryStores_8_5_run : isBool true (runW h6.K 3 [ai (Int.ofNat 8), ai (Int.ofNat 5)] s0) = true := by kernel_rfl
theorem MemoryStores_8_5_law {args : Array Value} (ha : VAs (fun _ => none) [ai (Int.ofNat 8), ai (Int.ofNat 5)] args.toList) (w : World) (hT : Tab w) :
    Calls Tryz.prog 3 args w fun e w' => Below w.heap.size w w' ∧ e = .returned (.bool true) := h6.law MemoryStores_8_5_run ha w hT
theorem MemoryStores_8_6_run : isBool true (runW h6.K 3 [ai (Int.ofNat 8), ai (Int.ofNat 6)] s0) = true := by kernel_rfl
theorem MemoryStores_8_6_law {args : Array Value} (ha : VAs (fun _ => none) [ai (Int.ofNat 8), ai (Int.ofNat 6)] args.toList) (w : World) (hT : Tab w) :
    Calls Tryz.prog 3 args w fun e w' => Below w.heap.size w w' ∧ e = .returned (.bool true) := h6.law MemoryStores_8_6_run ha w hT
theorem MemoryStores_8_7_run : isBool true (runW h6.K 3 [ai (Int.ofNat 8), ai (Int.ofNat 7)] s0) = true := by kernel_rfl
theorem MemoryStores_8_7_law {args : Array Value} (ha : VAs (fun _ => none) [ai (Int.ofNat 8), ai (Int.ofNat 7)] args.toList) (w : World) (hT : Tab w) :
    Calls Tryz.prog 3 args w fun e w' => Below w.heap.size w w' ∧ e = .returned (.bool true) := h6.law MemoryStores_8_7_run ha w hT
theorem MemoryStores_8_8_run : isBool true (runW h6.K 3 [ai (Int.ofNat 8), ai (Int.ofNat 8)] s0) = true := by kernel_rfl
theorem MemoryStores_8_8_law {args : Array Value} (ha : VAs (fun _ => none) [ai (Int.ofNat 8), ai (Int.ofNat 8)] args.toList) (w : World) (hT : Tab w) :
    Calls Tryz.prog 3 args w fun e w' => Below w.heap.size w w' ∧ e = .returned (.bool true) := h6.law MemoryStores_8_8_run ha w hT
theorem MemoryStores_8_neg (j : Nat) : isBool true (runW hkT 3 [ai (Int.ofNat 8), ai (Int.negSucc j)] s0) = true := by kernel_rfl
theorem MemoryStores_8_big (j : Nat) : isBool true (runW hkT 3 [ai (Int.ofNat 8), ai (Int.ofNat (j + 9))] s0) = true := by kernel_rfl
theorem MemoryStores_8_all (w : World) (hT : Tab w) (m : Int) : Calls Tryz.prog 3 #[.int .i64 (Int.ofNat 8), .int .i64 m] w fun e w' => Below w.heap.size w w' ∧ e = .returned (.bool true) := by
  rcases m with m | k
  · by_cases h : 9 ≤ m
    · obtain ⟨k, rfl⟩ : ∃ k, m = k + 9 := ⟨m - 9, by omega⟩
      exact lawT (MemoryStores_8_big k) (by exact ⟨rfl, rfl, trivial⟩) w hT
    · rcases (by omega : m = 0 ∨ m = 1 ∨ m = 2 ∨ m = 3 ∨ m = 4 ∨ m = 5 ∨ m = 6 ∨ m = 7 ∨ m = 8) with rfl | rfl | rfl | rfl | rfl | rfl | rfl | rfl | rfl
      · exact MemoryStores_8_0_law (by exact ⟨rfl, rfl, trivial⟩) w hT
      · exact MemoryStores_8_1_law (by exact ⟨rfl, rfl, trivial⟩) w hT
      · exact MemoryStores_8_2_law (by exact ⟨rfl, rfl, trivial⟩) w hT
      · exact MemoryStores_8_3_law (by exact ⟨rfl, rfl, trivial⟩) w hT
      · exact MemoryStores_8_4_law (by exact ⟨rfl, rfl, trivial⟩) w hT
      · exact MemoryStores_8_5_law (by exact ⟨rfl, rfl, trivial⟩) w hT
      · exact MemoryStores_8_6_law (by exact ⟨rfl, rfl, trivial⟩) w hT
      · exact MemoryStores_8_7_law (by exact ⟨rfl, rfl, trivial⟩) w hT
      · exact MemoryStores_8_8_law (by exact ⟨rfl, rfl, trivial⟩) w hT
  · exact lawT (MemoryStores_8_neg k) (by exact ⟨rfl, rfl, trivial⟩) w hT
end Go.Proofs.YtjbnkokcbhfdgabGreatDoor
