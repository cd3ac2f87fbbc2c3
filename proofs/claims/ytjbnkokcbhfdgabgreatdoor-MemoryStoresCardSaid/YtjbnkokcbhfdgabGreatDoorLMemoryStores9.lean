/- Tables of calls, and a run that uses them. -/
import Derived.Test.YtjbnkokcbhfdgabGreatDoorLn22
namespace Go.Proofs.YtjbnkokcbhfdgabGreatDoor
open Go Go.RowKit Ev
set_option maxRecDepth 100000
set_option linter.unusedVariables false
private noncomputable abbrev i (n : Nat) : CV := .int .i64 (.ofNat n)
private noncomputable abbrev o (b a n : Nat) : CV := .slice b a n (.opn 0)
private noncomputable abbrev f (b a n : Nat) : CV := .slice b a n (.fix n)
private noncomputable abbrev e (k t : Nat) : Nat × BK := (k, ⟨[.snil], t, 0, none⟩)
private noncomputable abbrev l0 : Bls := [(0, ⟨[.snil, i 0, i 0], 89, 0, none⟩),
(3, ⟨[o 29 0 11, i 3, i 0, i 0, i 0], 41, 0, none⟩),
(4, ⟨[i 0, o 9 0 2, f 3 0 1], 38, 0, none⟩),
(5, ⟨[f 7 0 1, f 0 0 1, .snil, .snil, f 4 0 1, i 0], 34, 0, none⟩),
(6, ⟨[i 0, i 0, i 0, i 0], 26, 0, none⟩),
(7, ⟨[f 6 0 2], 27, 0, none⟩),
(9, ⟨[i 0, i 0, i 1, i 0], 26, 2, none⟩),
(29, ⟨[i 1, i 0, i 0, i 0, i 7, .snil, i 5, i 1, i 0, i 0, i 0, .snil, i 8, i 0, i 1, i 0, i 0, .snil, i 8, i 0, i 1, i 0, i 1, .snil, i 8, i 0, i 1, i 0, i 0, .snil, i 8, i 0, i 1, i 0, i 1, .snil, i 8, i 0, i 1, i 0, i 0, .snil, i 8, i 0, i 1, i 0, i 1, .snil, i 8, i 0, i 1, i 0, i 0, .snil, i 8, i 0, i 1, i 0, i 1, .snil, i 8, i 0, i 1, i 0, i 0, .snil], 44, 6, none⟩)]
private noncomputable abbrev l1 : Bls := [(30, ⟨[o 38 0 1, o 42 0 1, o 87 0 1, o 78 0 1, o 80 0 1, i 5], 150, 0, none⟩),
(36, ⟨[i 0, i 1], 3, 1, none⟩),
(38, ⟨[o 36 0 2], 42, 1, none⟩),
(42, ⟨[i 2], 3, 1, none⟩),
(78, ⟨[i 1], 3, 1, none⟩),
(80, ⟨[i 0], 3, 1, none⟩),
(85, ⟨[i 3, i 4], 3, 1, none⟩),
(87, ⟨[o 85 0 2], 42, 1, none⟩),
(138, ⟨[o 148 0 5], 157, 0, none⟩),
(148, ⟨[i 0, i 1, i 2, i 3, i 4], 3, 1, none⟩),
(149, ⟨[.snil, .snil, .snil, .snil, .snil], 162, 0, none⟩),
(150, ⟨[o 201 0 1], 99, 0, none⟩),
(151, ⟨[], 0, 0, some (.map [] 0)⟩),
(152, ⟨[], 0, 0, some (.map [] 1)⟩),
(153, ⟨[.snil, o 444 0 0, .map 152, i 1], 161, 0, none⟩),
(154, ⟨[.ptr 5 0, .ptr 30 0, .ptr 138 0, o 193 0 5, o 196 0 5, o 199 0 5, f 149 0 5, .ptr 150 0, .map 151, .ptr 153 0], 105, 0, none⟩),
e 155 99,
e 158 99,
e 161 99,
(164, ⟨[o 442 0 1], 99, 0, none⟩),
e 170 99,
e 173 99,
e 176 99,
e 179 99,
e 182 99,
e 185 99,
e 188 99,
e 191 99,
(193, ⟨[.ptr 155 0, .ptr 164 0, .ptr 173 0, .ptr 182 0, .ptr 191 0], 96, 1, none⟩),
e 194 99,
(196, ⟨[.ptr 158 0, .ptr 534 0, .ptr 176 0, .ptr 185 0, .ptr 194 0], 96, 1, none⟩),
e 197 99,
(199, ⟨[.ptr 161 0, .ptr 170 0, .ptr 179 0, .ptr 188 0, .ptr 197 0], 96, 1, none⟩),
(201, ⟨[.int .u64 (.ofNat 1)], 229, 1, none⟩),
(442, ⟨[.int .u64 (.ofNat 1)], 229, 1, none⟩),
(444, ⟨[i 0], 3, 1, none⟩),
(533, ⟨[.int .u64 (.ofNat 1)], 229, 1, none⟩),
(534, ⟨[o 533 0 1], 99, 0, none⟩)]
private noncomputable abbrev l2 : Bls := [(537, ⟨[.ptr 5 0, .ptr 154 0, o 891 0 12, o 613 0 1], 178, 0, none⟩),
(540, ⟨[i 0, f 542 0 12], 258, 0, none⟩),
(542, ⟨[.snil, o 548 0 1, o 554 0 1, o 560 0 1, o 566 0 1, o 572 0 1, o 578 0 1, o 584 0 1, o 590 0 1, o 596 0 1, o 602 0 1, o 608 0 1], 42, 0, none⟩),
(548, ⟨[i 0], 3, 1, none⟩),
(554, ⟨[i 1], 3, 1, none⟩),
(560, ⟨[i 2], 3, 1, none⟩),
(566, ⟨[i 3], 3, 1, none⟩),
(572, ⟨[i 4], 3, 1, none⟩),
(578, ⟨[i 5], 3, 1, none⟩),
(584, ⟨[i 6], 3, 1, none⟩),
(590, ⟨[i 7], 3, 1, none⟩),
(596, ⟨[i 8], 3, 1, none⟩),
(602, ⟨[i 9], 3, 1, none⟩),
(608, ⟨[i 10], 3, 1, none⟩),
(613, ⟨[.ptr 540 0], 179, 1, none⟩),
(639, ⟨[], 0, 0, some (.map [] 0)⟩),
(652, ⟨[], 0, 0, some (.map [(0, .agg [i 1, i 0], .c (.bool true)), (1, .agg [i 1, i 1], .c (.bool true))] 2)⟩),
(674, ⟨[], 0, 0, some (.map [(0, .agg [i 1, i 0], .c (.bool true))] 1)⟩),
(697, ⟨[], 0, 0, some (.map [(0, .agg [i 1, i 1], .c (.bool true))] 1)⟩),
(720, ⟨[], 0, 0, some (.map [(0, .agg [i 1, i 0], .c (.bool true))] 1)⟩),
(743, ⟨[], 0, 0, some (.map [(0, .agg [i 1, i 1], .c (.bool true))] 1)⟩),
(766, ⟨[], 0, 0, some (.map [(0, .agg [i 1, i 0], .c (.bool true))] 1)⟩),
(789, ⟨[], 0, 0, some (.map [(0, .agg [i 1, i 1], .c (.bool true))] 1)⟩),
(812, ⟨[], 0, 0, some (.map [(0, .agg [i 1, i 0], .c (.bool true))] 1)⟩),
(835, ⟨[], 0, 0, some (.map [(0, .agg [i 1, i 1], .c (.bool true))] 1)⟩),
(858, ⟨[], 0, 0, some (.map [(0, .agg [i 1, i 0], .c (.bool true))] 1)⟩),
(881, ⟨[], 0, 0, some (.map [] 0)⟩),
(891, ⟨[.map 639, .map 652, .map 674, .map 697, .map 720, .map 743, .map 766, .map 789, .map 812, .map 835, .map 858, .map 881], 181, 1, none⟩)]
private noncomputable abbrev l3 : Bls := [(0, ⟨[.snil, i 0, i 0], 89, 0, none⟩),
(3, ⟨[o 29 0 11, i 3, i 0, i 0, i 0], 41, 0, none⟩),
(4, ⟨[i 0, o 9 0 2, f 3 0 1], 38, 0, none⟩),
(5, ⟨[f 7 0 1, f 0 0 1, .snil, .snil, f 4 0 1, i 0], 34, 0, none⟩),
(6, ⟨[i 0, i 0, i 0, i 0], 26, 0, none⟩),
(7, ⟨[f 6 0 2], 27, 0, none⟩),
(9, ⟨[i 0, i 0, i 1, i 0], 26, 2, none⟩),
(29, ⟨[i 1, i 0, i 0, i 0, i 7, .snil, i 5, i 1, i 0, i 0, i 0, .snil, i 8, i 0, i 1, i 0, i 0, .snil, i 8, i 0, i 1, i 0, i 1, .snil, i 8, i 0, i 1, i 0, i 0, .snil, i 8, i 0, i 1, i 0, i 1, .snil, i 8, i 0, i 1, i 0, i 0, .snil, i 8, i 0, i 1, i 0, i 1, .snil, i 8, i 0, i 1, i 0, i 0, .snil, i 8, i 0, i 1, i 0, i 1, .snil, i 8, i 0, i 1, i 0, i 0, .snil], 44, 6, none⟩),
(30, ⟨[o 38 0 1, o 42 0 1, o 87 0 1, o 78 0 1, o 80 0 1, i 5], 150, 0, none⟩),
(36, ⟨[i 0, i 1], 3, 1, none⟩),
(38, ⟨[o 36 0 2], 42, 1, none⟩),
(42, ⟨[i 2], 3, 1, none⟩),
(78, ⟨[i 1], 3, 1, none⟩),
(80, ⟨[i 0], 3, 1, none⟩),
(85, ⟨[i 3, i 4], 3, 1, none⟩),
(87, ⟨[o 85 0 2], 42, 1, none⟩),
(138, ⟨[o 148 0 5], 157, 0, none⟩),
(148, ⟨[i 0, i 1, i 2, i 3, i 4], 3, 1, none⟩),
(149, ⟨[.snil, .snil, .snil, .snil, .snil], 162, 0, none⟩),
(150, ⟨[o 201 0 1], 99, 0, none⟩),
(151, ⟨[], 0, 0, some (.map [] 0)⟩),
(152, ⟨[], 0, 0, some (.map [] 1)⟩),
(153, ⟨[.snil, o 444 0 0, .map 152, i 1], 161, 0, none⟩),
(154, ⟨[.ptr 5 0, .ptr 30 0, .ptr 138 0, o 193 0 5, o 196 0 5, o 199 0 5, f 149 0 5, .ptr 150 0, .map 151, .ptr 153 0], 105, 0, none⟩),
e 155 99,
e 158 99,
e 161 99,
(164, ⟨[o 442 0 1], 99, 0, none⟩),
e 170 99,
e 173 99,
e 176 99,
e 179 99,
e 182 99,
e 185 99,
e 188 99,
e 191 99,
(193, ⟨[.ptr 155 0, .ptr 164 0, .ptr 173 0, .ptr 182 0, .ptr 191 0], 96, 1, none⟩),
e 194 99,
(196, ⟨[.ptr 158 0, .ptr 534 0, .ptr 176 0, .ptr 185 0, .ptr 194 0], 96, 1, none⟩),
e 197 99,
(199, ⟨[.ptr 161 0, .ptr 170 0, .ptr 179 0, .ptr 188 0, .ptr 197 0], 96, 1, none⟩),
(201, ⟨[.int .u64 (.ofNat 1)], 229, 1, none⟩),
(442, ⟨[.int .u64 (.ofNat 1)], 229, 1, none⟩),
(444, ⟨[i 0], 3, 1, none⟩),
(533, ⟨[.int .u64 (.ofNat 1)], 229, 1, none⟩),
(534, ⟨[o 533 0 1], 99, 0, none⟩)]
private noncomputable def m0 : MM := ⟨[56], l0, 30, [⟨56, 0, [.v (.c (.ptr 5 0))], .v (.c (.nili))⟩]⟩
private theorem m0_k : H0.tbl m0 = true := by kernel_rfl
private noncomputable def h1 : HK := H0.memo m0 m0_k
private noncomputable def m1 : MM := ⟨[91], [(3, ⟨[o 29 0 11, i 3, i 0, i 0, i 0], 41, 0, none⟩),
(4, ⟨[i 0, o 9 0 2, f 3 0 1], 38, 0, none⟩),
(5, ⟨[f 7 0 1, f 0 0 1, .snil, .snil, f 4 0 1, i 0], 34, 0, none⟩)], 69, [⟨91, 0, [.v (.c (.ptr 5 0)), .v (.c (i 0))], .tup [.agg [i 0, i 0, i 0], .c (.bool true)]⟩,
⟨91, 1, [.v (.c (.ptr 5 0)), .v (.c (i 1))], .tup [.agg [i 0, i 0, i 1], .c (.bool true)]⟩,
⟨91, 2, [.v (.c (.ptr 5 0)), .v (.c (i 2))], .tup [.agg [i 0, i 0, i 2], .c (.bool true)]⟩,
⟨91, 3, [.v (.c (.ptr 5 0)), .v (.c (i 3))], .tup [.agg [i 0, i 0, i 3], .c (.bool true)]⟩,
⟨91, 4, [.v (.c (.ptr 5 0)), .v (.c (i 4))], .tup [.agg [i 0, i 0, i 4], .c (.bool true)]⟩,
⟨91, 5, [.v (.c (.ptr 5 0)), .v (.c (i 5))], .tup [.agg [i 0, i 0, i 5], .c (.bool true)]⟩,
⟨91, 6, [.v (.c (.ptr 5 0)), .v (.c (i 6))], .tup [.agg [i 0, i 0, i 6], .c (.bool true)]⟩,
⟨91, 7, [.v (.c (.ptr 5 0)), .v (.c (i 7))], .tup [.agg [i 0, i 0, i 7], .c (.bool true)]⟩,
⟨91, 8, [.v (.c (.ptr 5 0)), .v (.c (i 8))], .tup [.agg [i 0, i 0, i 8], .c (.bool true)]⟩,
⟨91, 9, [.v (.c (.ptr 5 0)), .v (.c (i 9))], .tup [.agg [i 0, i 0, i 9], .c (.bool true)]⟩,
⟨91, 10, [.v (.c (.ptr 5 0)), .v (.c (i 10))], .tup [.agg [i 0, i 0, i 10], .c (.bool true)]⟩,
⟨91, 11, [.v (.c (.ptr 5 0)), .v (.c (i 11))], .tup [.agg [i 0, i 0, i 11], .c (.bool true)]⟩]⟩
private theorem m1_k : h1.tbl m1 = true := by kernel_rfl
private noncomputable def h2 : HK := h1.memo m1 m1_k
private noncomputable def s1 : RE := ⟨35, [.v (.c (.ptr 5 0))], 30, .v (.c (.ptr 30 0)), [(30, ⟨[o 38 0 1, o 42 0 1, o 87 0 1, o 78 0 1, o 80 0 1, i 5], 150, 0, none⟩),
(36, ⟨[i 0, i 1], 3, 1, none⟩),
(38, ⟨[o 36 0 2], 42, 1, none⟩),
(42, ⟨[i 2], 3, 1, none⟩),
(78, ⟨[i 1], 3, 1, none⟩),
(80, ⟨[i 0], 3, 1, none⟩),
(85, ⟨[i 3, i 4], 3, 1, none⟩),
(87, ⟨[o 85 0 2], 42, 1, none⟩)], 138⟩
private theorem s1_k : h2.srp l0 s1 = true := by kernel_rfl
private noncomputable def h3 : HK := h2.srep _ s1 s1_k
private noncomputable def s2 : RE := ⟨9, [.v (.c (.ptr 5 0)), .v (.c (.snil))], 30, .v (.c (.ptr 154 0)), l1, 535⟩
private theorem s2_k : h3.rep l0 s2 = true := by kernel_rfl
private noncomputable def h4 : HK := h3.repl _ s2 s2_k
private noncomputable def s3 : RE := ⟨43, [.v (.c (.ptr 5 0)), .v (.c (.ptr 154 0))], 537, .v (.c (.ptr 537 0)), l2, 892⟩
private theorem s3_k : h4.srp l3 s3 = true := by kernel_rfl
private noncomputable def h5 : HK := h4.srep _ s3 s3_k
private noncomputable def s4 : RE := ⟨11, [.v (.c (.ptr 5 0)), .v (.c (.ptr 154 0)), .v (.c (i 0))], 1269, .v (.c (o 1459 0 2)), [(1459, ⟨[i 1, i 0, i 1, i 1, i 0, i 0, i 0, i 0, i 0, i 0, i 0, i 0, i 0, i 0, i 0, i 0, i 0, i 0, i 0, i 0, i 0, i 0], 48, 2, none⟩)], 1644⟩
private theorem s4_k : h5.srp l3 s4 = true := by kernel_rfl
private noncomputable def h6 : HK := h5.srep _ s4 s4_k
theorem MemoryStores_9_0_run : isBool true (runW h6.K 3 [ai (Int.ofNat 9), ai (Int.ofNat 0)] s0) = true := by kernel_rfl
theorem MemoryStores_9_0_law {args : Array Value} (ha : VAs (fun _ => none) [ai (Int.ofNat 9), ai (Int.ofNat 0)] args.toList) (w : World) (hT : Tab w) :
    Calls Tryz.prog 3 args w fun e w' => Below w.heap.size w w' ∧ e = .returned (.bool true) := h6.law MemoryStores_9_0_run ha w hT
theorem MemoryStores_9_1_run : isBool true (runW h6.K 3 [ai (Int.ofNat 9), ai (Int.ofNat 1)] s0) = true := by kernel_rfl
theorem MemoryStores_9_1_law {args : Array Value} (ha : VAs (fun _ => none) [ai (Int.ofNat 9), ai (Int.ofNat 1)] args.toList) (w : World) (hT : Tab w) :
    Calls Tryz.prog 3 args w fun e w' => Below w.heap.size w w' ∧ e = .returned (.bool true) := h6.law MemoryStores_9_1_run ha w hT
theorem MemoryStores_9_2_run : isBool true (runW h6.K 3 [ai (Int.ofNat 9), ai (Int.ofNat 2)] s0) = true := by kernel_rfl
theorem MemoryStores_9_2_law {args : Array Value} (ha : VAs (fun _ => none) [ai (Int.ofNat 9), ai (Int.ofNat 2)] args.toList) (w : World) (hT : Tab w) :
    Calls Tryz.prog 3 args w fun e w' => Below w.heap.size w w' ∧ e = .returned (.bool true) := h6.law MemoryStores_9_2_run ha w hT
theorem MemoryStores_9_3_run : isBool true (runW h6.K 3 [ai (Int.ofNat 9), ai (Int.ofNat 3)] s0) = true := by kernel_rfl
theorem MemoryStores_9_3_law {args : Array Value} (ha : VAs (fun _ => none) [ai (Int.ofNat 9), ai (Int.ofNat 3)] args.toList) (w : World) (hT : Tab w) :
    Calls Tryz.prog 3 args w fun e w' => Below w.heap.size w w' ∧ e = .returned (.bool true) := h6.law MemoryStores_9_3_run ha w hT
theorem MemoryStores_9_4_run : isBool true (runW h6.K 3 [ai (Int.ofNat 9), ai (Int.ofNat 4)] s0) = true := by kernel_rfl
theorem MemoryStores_9_4_law {args : Array Value} (ha : VAs (fun _ => none) [ai (Int.ofNat 9), ai (Int.ofNat 4)] args.toList) (w : World) (hT : Tab w) :
    Calls Tryz.prog 3 args w fun e w' => Below w.heap.size w w' ∧ e = .returned (.bool true) := h6.law MemoryStores_9_4_run ha w hT
theorem MemoryStores_9_5_run : isBool true (runW h6.K 3 [ai (Int.ofNat 9), ai (Int.ofNat 5)] s0) = true := by kernel_rfl
theorem MemoryStores_9_5_law {args : Array Value} (ha : VAs (fun _ => none) [ai (Int.ofNat 9), ai (Int.ofNat 5)] args.toList) (w : World) (hT : Tab w) :
    Calls Tryz.prog 3 args w fun e w' => Below w.heap.size w w' ∧ e = .returned (.bool true) := h6.law MemoryStores_9_5_run ha w hT
theorem MemoryStores_9_6_run : isBool true (runW h6.K 3 [ai (Int.ofNat 9), ai (Int.ofNat 6)] s0) = true := by kernel_rfl
theorem MemoryStores_9_6_law {args : Array Value} (ha : VAs (fun _ => none) [ai (Int.ofNat 9), ai (Int.ofNat 6)] args.toList) (w : World) (hT : Tab w) :
    Calls Tryz.prog 3 args w fun e w' => Below w.heap.size w w' ∧ e = .returned (.bool true) := h6.law MemoryStores_9_6_run ha w hT
theorem MemoryStores_9_7_run : isBool true (runW h6.K 3 [ai (Int.ofNat 9), ai (Int.ofNat 7)] s0) = true := by kernel_rfl
theorem MemoryStores_9_7_law {args : Array Value} (ha : VAs (fun _ => none) [ai (Int.ofNat 9), ai (Int.ofNat 7)] args.toList) (w : World) (hT : Tab w) :
    Calls Tryz.prog 3 args w fun e w' => Below w.heap.size w w' ∧ e = .returned (.bool true) := h6.law MemoryStores_9_7_run ha w hT
theorem MemoryStores_9_8_run : isBool true (runW h6.K 3 [ai (Int.ofNat 9), ai (Int.ofNat 8)] s0) = true := by kernel_rfl
theorem MemoryStores_9_8_law {args : Array Value} (ha : VAs (fun _ => none) [ai (Int.ofNat 9), ai (Int.ofNat 8)] args.toList) (w : World) (hT : Tab w) :
    Calls Tryz.prog 3 args w fun e w' => Below w.heap.size w w' ∧ e = .returned (.bool true) := h6.law MemoryStores_9_8_run ha w hT
theorem MemoryStores_9_9_run : isBool true (runW h6.K 3 [ai (Int.ofNat 9), ai (Int.ofNat 9)] s0) = true := by kernel_rfl
theorem MemoryStores_9_9_law {args : Array Value} (ha : VAs (fun _ => none) [ai (Int.ofNat 9), ai (Int.ofNat 9)] args.toList) (w : World) (hT : Tab w) :
    Calls Tryz.prog 3 args w fun e w' => Below w.heap.size w w' ∧ e = .returned (.bool true) := h6.law MemoryStores_9_9_run ha w hT
theorem MemoryStores_9_neg (j : Nat) : isBool true (runW hkT 3 [ai (Int.ofNat 9), ai (Int.negSucc j)] s0) = true := by kernel_rfl
theorem MemoryStores_9_big (j : Nat) : isBool true (runW hkT 3 [ai (Int.ofNat 9), ai (Int.ofNat (j + 10))] s0) = true := by kernel_rfl
theorem MemoryStores_9_all (w : World) (hT : Tab w) (m : Int) : Calls Tryz.prog 3 #[.int .i64 (Int.ofNat 9), .int .i64 m] w fun e w' => Below w.heap.size w w' ∧ e = .returned (.bool true) := by
  rcases m with m | k
  · by_cases h : 10 ≤ m
    · obtain ⟨k, rfl⟩ : ∃ k, m = k + 10 := ⟨m - 10, by omega⟩
      exact lawT (MemoryStores_9_big k) (by exact ⟨rfl, rfl, trivial⟩) w hT
    · rcases (by omega : m = 0 ∨ m = 1 ∨ m = 2 ∨ m = 3 ∨ m = 4 ∨ m = 5 ∨ m = 6 ∨ m = 7 ∨ m = 8 ∨ m = 9) with rfl | rfl | rfl | rfl | rfl | rfl | rfl | rfl | rfl | rfl
      · exact MemoryStores_9_0_law (by exact ⟨rfl, rfl, trivial⟩) w hT
      · exact MemoryStores_9_1_law (by exact ⟨rfl, rfl, trivial⟩) w hT
      · exact MemoryStores_9_2_law (by exact ⟨rfl, rfl, trivial⟩) w hT
      · exact MemoryStores_9_3_law (by exact ⟨rfl, rfl, trivial⟩) w hT
      · exact MemoryStores_9_4_law (by exact ⟨rfl, rfl, trivial⟩) w hT
      · exact MemoryStores_9_5_law (by exact ⟨rfl, rfl, trivial⟩) w hT
      · exact MemoryStores_9_6_law (by exact ⟨rfl, rfl, trivial⟩) w hT
      · exact MemoryStores_9_7_law (by exact ⟨rfl, rfl, trivial⟩) w hT
      · exact MemoryStores_9_8_law (by exact ⟨rfl, rfl, trivial⟩) w hT
      · exact MemoryStores_9_9_law (by exact ⟨rfl, rfl, trivial⟩) w hT
  · exact lawT (MemoryStores_9_neg k) (by exact ⟨rfl, rfl, trivial⟩) w hT
end Go.Proofs.YtjbnkokcbhfdgabGreatDoor
