/- Tables of calls, and a run that uses them. -/
import Derived.Test.YtjbnkokcbhfdgabGreatDoorLn22
namespace Go.Proofs.YtjbnkokcbhfdgabGreatDoor
open Go Go.RowKit Ev
set_option maxRecDepth 100000
set_option linter.unusedVariables false
private noncomputable abbrev i (n : Nat) : CV := .int .i64 (.ofNat n)
private noncomputable abbrev o (b a n : Nat) : CV := .slice b a n (.opn 0)
private noncomputable abbrev f (b a n : Nat) : CV := .slice b a n (.fix n)
private noncomputable abbrev e (k t : Nat) : Nat × BK := (k, ⟨[.snil], t, 0, none⟩)
private noncomputable abbrev l0 : Bls := [(0, ⟨[.snil, i 0, i 0], 89, 0, none⟩),
(3, ⟨[o 31 0 12, i 3, i 0, i 0, i 0], 41, 0, none⟩),
(4, ⟨[i 0, o 9 0 2, f 3 0 1], 38, 0, none⟩),
(5, ⟨[f 7 0 1, f 0 0 1, .snil, .snil, f 4 0 1, i 0], 34, 0, none⟩),
(6, ⟨[i 0, i 0, i 0, i 0], 26, 0, none⟩),
(7, ⟨[f 6 0 2], 27, 0, none⟩),
(9, ⟨[i 0, i 0, i 1, i 0], 26, 2, none⟩),
(31, ⟨[i 1, i 0, i 0, i 0, i 7, .snil, i 5, i 1, i 0, i 0, i 0, .snil, i 8, i 0, i 1, i 0, i 0, .snil, i 8, i 0, i 1, i 0, i 1, .snil, i 8, i 0, i 1, i 0, i 0, .snil, i 8, i 0, i 1, i 0, i 1, .snil, i 8, i 0, i 1, i 0, i 0, .snil, i 8, i 0, i 1, i 0, i 1, .snil, i 8, i 0, i 1, i 0, i 0, .snil, i 8, i 0, i 1, i 0, i 1, .snil, i 8, i 0, i 1, i 0, i 0, .snil, i 8, i 0, i 1, i 0, i 1, .snil], 44, 6, none⟩)]
private noncomputable abbrev l1 : Bls := [(32, ⟨[o 40 0 1, o 44 0 1, o 91 0 1, o 82 0 1, o 84 0 1, i 5], 150, 0, none⟩),
(38, ⟨[i 0, i 1], 3, 1, none⟩),
(40, ⟨[o 38 0 2], 42, 1, none⟩),
(44, ⟨[i 2], 3, 1, none⟩),
(82, ⟨[i 1], 3, 1, none⟩),
(84, ⟨[i 0], 3, 1, none⟩),
(89, ⟨[i 3, i 4], 3, 1, none⟩),
(91, ⟨[o 89 0 2], 42, 1, none⟩),
(147, ⟨[o 157 0 5], 157, 0, none⟩),
(157, ⟨[i 0, i 1, i 2, i 3, i 4], 3, 1, none⟩),
(158, ⟨[.snil, .snil, .snil, .snil, .snil], 162, 0, none⟩),
(159, ⟨[o 210 0 1], 99, 0, none⟩),
(160, ⟨[], 0, 0, some (.map [] 0)⟩),
(161, ⟨[], 0, 0, some (.map [] 1)⟩),
(162, ⟨[.snil, o 470 0 0, .map 161, i 1], 161, 0, none⟩),
(163, ⟨[.ptr 5 0, .ptr 32 0, .ptr 147 0, o 202 0 5, o 205 0 5, o 208 0 5, f 158 0 5, .ptr 159 0, .map 160, .ptr 162 0], 105, 0, none⟩),
e 164 99,
e 167 99,
e 170 99,
(173, ⟨[o 468 0 1], 99, 0, none⟩),
e 179 99,
e 182 99,
e 185 99,
e 188 99,
e 191 99,
e 194 99,
e 197 99,
e 200 99,
(202, ⟨[.ptr 164 0, .ptr 173 0, .ptr 182 0, .ptr 191 0, .ptr 200 0], 96, 1, none⟩),
e 203 99,
(205, ⟨[.ptr 167 0, .ptr 567 0, .ptr 185 0, .ptr 194 0, .ptr 203 0], 96, 1, none⟩),
e 206 99,
(208, ⟨[.ptr 170 0, .ptr 179 0, .ptr 188 0, .ptr 197 0, .ptr 206 0], 96, 1, none⟩),
(210, ⟨[.int .u64 (.ofNat 1)], 229, 1, none⟩),
(468, ⟨[.int .u64 (.ofNat 1)], 229, 1, none⟩),
(470, ⟨[i 0], 3, 1, none⟩),
(566, ⟨[.int .u64 (.ofNat 1)], 229, 1, none⟩),
(567, ⟨[o 566 0 1], 99, 0, none⟩)]
private noncomputable abbrev l2 : Bls := [(570, ⟨[.ptr 5 0, .ptr 163 0, o 955 0 13, o 652 0 1], 178, 0, none⟩),
(573, ⟨[i 0, f 575 0 13], 258, 0, none⟩),
(575, ⟨[.snil, o 581 0 1, o 587 0 1, o 593 0 1, o 599 0 1, o 605 0 1, o 611 0 1, o 617 0 1, o 623 0 1, o 629 0 1, o 635 0 1, o 641 0 1, o 647 0 1], 42, 0, none⟩),
(581, ⟨[i 0], 3, 1, none⟩),
(587, ⟨[i 1], 3, 1, none⟩),
(593, ⟨[i 2], 3, 1, none⟩),
(599, ⟨[i 3], 3, 1, none⟩),
(605, ⟨[i 4], 3, 1, none⟩),
(611, ⟨[i 5], 3, 1, none⟩),
(617, ⟨[i 6], 3, 1, none⟩),
(623, ⟨[i 7], 3, 1, none⟩),
(629, ⟨[i 8], 3, 1, none⟩),
(635, ⟨[i 9], 3, 1, none⟩),
(641, ⟨[i 10], 3, 1, none⟩),
(647, ⟨[i 11], 3, 1, none⟩),
(652, ⟨[.ptr 573 0], 179, 1, none⟩),
(680, ⟨[], 0, 0, some (.map [] 0)⟩),
(693, ⟨[], 0, 0, some (.map [(0, .agg [i 1, i 0], .c (.bool true)), (1, .agg [i 1, i 1], .c (.bool true))] 2)⟩),
(715, ⟨[], 0, 0, some (.map [(0, .agg [i 1, i 0], .c (.bool true))] 1)⟩),
(738, ⟨[], 0, 0, some (.map [(0, .agg [i 1, i 1], .c (.bool true))] 1)⟩),
(761, ⟨[], 0, 0, some (.map [(0, .agg [i 1, i 0], .c (.bool true))] 1)⟩),
(784, ⟨[], 0, 0, some (.map [(0, .agg [i 1, i 1], .c (.bool true))] 1)⟩),
(807, ⟨[], 0, 0, some (.map [(0, .agg [i 1, i 0], .c (.bool true))] 1)⟩),
(830, ⟨[], 0, 0, some (.map [(0, .agg [i 1, i 1], .c (.bool true))] 1)⟩),
(853, ⟨[], 0, 0, some (.map [(0, .agg [i 1, i 0], .c (.bool true))] 1)⟩),
(876, ⟨[], 0, 0, some (.map [(0, .agg [i 1, i 1], .c (.bool true))] 1)⟩),
(899, ⟨[], 0, 0, some (.map [(0, .agg [i 1, i 0], .c (.bool true))] 1)⟩),
(922, ⟨[], 0, 0, some (.map [(0, .agg [i 1, i 1], .c (.bool true))] 1)⟩),
(945, ⟨[], 0, 0, some (.map [] 0)⟩),
(955, ⟨[.map 680, .map 693, .map 715, .map 738, .map 761, .map 784, .map 807, .map 830, .map 853, .map 876, .map 899, .map 922, .map 945], 181, 1, none⟩)]
private noncomputable abbrev l3 : Bls := [(0, ⟨[.snil, i 0, i 0], 89, 0, none⟩),
(3, ⟨[o 31 0 12, i 3, i 0, i 0, i 0], 41, 0, none⟩),
(4, ⟨[i 0, o 9 0 2, f 3 0 1], 38, 0, none⟩),
(5, ⟨[f 7 0 1, f 0 0 1, .snil, .snil, f 4 0 1, i 0], 34, 0, none⟩),
(6, ⟨[i 0, i 0, i 0, i 0], 26, 0, none⟩),
(7, ⟨[f 6 0 2], 27, 0, none⟩),
(9, ⟨[i 0, i 0, i 1, i 0], 26, 2, none⟩),
(31, ⟨[i 1, i 0, i 0, i 0, i 7, .snil, i 5, i 1, i 0, i 0, i 0, .snil, i 8, i 0, i 1, i 0, i 0, .snil, i 8, i 0, i 1, i 0, i 1, .snil, i 8, i 0, i 1, i 0, i 0, .snil, i 8, i 0, i 1, i 0, i 1, .snil, i 8, i 0, i 1, i 0, i 0, .snil, i 8, i 0, i 1, i 0, i 1, .snil, i 8, i 0, i 1, i 0, i 0, .snil, i 8, i 0, i 1, i 0, i 1, .snil, i 8, i 0, i 1, i 0, i 0, .snil, i 8, i 0, i 1, i 0, i 1, .snil], 44, 6, none⟩),
(32, ⟨[o 40 0 1, o 44 0 1, o 91 0 1, o 82 0 1, o 84 0 1, i 5], 150, 0, none⟩),
(38, ⟨[i 0, i 1], 3, 1, none⟩),
(40, ⟨[o 38 0 2], 42, 1, none⟩),
(44, ⟨[i 2], 3, 1, none⟩),
(82, ⟨[i 1], 3, 1, none⟩),
(84, ⟨[i 0], 3, 1, none⟩),
(89, ⟨[i 3, i 4], 3, 1, none⟩),
(91, ⟨[o 89 0 2], 42, 1, none⟩),
(147, ⟨[o 157 0 5], 157, 0, none⟩),
(157, ⟨[i 0, i 1, i 2, i 3, i 4], 3, 1, none⟩),
(158, ⟨[.snil, .snil, .snil, .snil, .snil], 162, 0, none⟩),
(159, ⟨[o 210 0 1], 99, 0, none⟩),
(160, ⟨[], 0, 0, some (.map [] 0)⟩),
(161, ⟨[], 0, 0, some (.map [] 1)⟩),
(162, ⟨[.snil, o 470 0 0, .map 161, i 1], 161, 0, none⟩),
(163, ⟨[.ptr 5 0, .ptr 32 0, .ptr 147 0, o 202 0 5, o 205 0 5, o 208 0 5, f 158 0 5, .ptr 159 0, .map 160, .ptr 162 0], 105, 0, none⟩),
e 164 99,
e 167 99,
e 170 99,
(173, ⟨[o 468 0 1], 99, 0, none⟩),
e 179 99,
e 182 99,
e 185 99,
e 188 99,
e 191 99,
e 194 99,
e 197 99,
e 200 99,
(202, ⟨[.ptr 164 0, .ptr 173 0, .ptr 182 0, .ptr 191 0, .ptr 200 0], 96, 1, none⟩),
e 203 99,
(205, ⟨[.ptr 167 0, .ptr 567 0, .ptr 185 0, .ptr 194 0, .ptr 203 0], 96, 1, none⟩),
e 206 99,
(208, ⟨[.ptr 170 0, .ptr 179 0, .ptr 188 0, .ptr 197 0, .ptr 206 0], 96, 1, none⟩),
(210, ⟨[.int .u64 (.ofNat 1)], 229, 1, none⟩),
(468, ⟨[.int .u64 (.ofNat 1)], 229, 1, none⟩),
(470, ⟨[i 0], 3, 1, none⟩),
(566, ⟨[.int .u64 (.ofNat 1)], 229, 1, none⟩),
(567, ⟨[o 566 0 1], 99, 0, none⟩)]
private noncomputable def m0 : MM := ⟨[56], l0, 32, [⟨56, 0, [.v (.c (.ptr 5 0))], .v (.c (.nili))⟩]⟩
private theorem m0_k : H0.tbl m0 = true := by kernel_rfl
private noncomputable def h1 : HK := H0.memo m0 m0_k
private noncomputable def m1 : MM := ⟨[91], [(3, ⟨[o 31 0 12, i 3, i 0, i 0, i 0], 41, 0, none⟩),
(4, ⟨[i 0, o 9 0 2, f 3 0 1], 38, 0, none⟩),
(5, ⟨[f 7 0 1, f 0 0 1, .snil, .snil, f 4 0 1, i 0], 34, 0, none⟩)], 73, [⟨91, 0, [.v (.c (.ptr 5 0)), .v (.c (i 0))], .tup [.agg [i 0, i 0, i 0], .c (.bool true)]⟩,
⟨91, 1, [.v (.c (.ptr 5 0)), .v (.c (i 1))], .tup [.agg [i 0, i 0, i 1], .c (.bool true)]⟩,
⟨91, 2, [.v (.c (.ptr 5 0)), .v (.c (i 2))], .tup [.agg [i 0, i 0, i 2], .c (.bool true)]⟩,
⟨91, 3, [.v (.c (.ptr 5 0)), .v (.c (i 3))], .tup [.agg [i 0, i 0, i 3], .c (.bool true)]⟩,
⟨91, 4, [.v (.c (.ptr 5 0)), .v (.c (i 4))], .tup [.agg [i 0, i 0, i 4], .c (.bool true)]⟩,
⟨91, 5, [.v (.c (.ptr 5 0)), .v (.c (i 5))], .tup [.agg [i 0, i 0, i 5], .c (.bool true)]⟩,
⟨91, 6, [.v (.c (.ptr 5 0)), .v (.c (i 6))], .tup [.agg [i 0, i 0, i 6], .c (.bool true)]⟩,
⟨91, 7, [.v (.c (.ptr 5 0)), .v (.c (i 7))], .tup [.agg [i 0, i 0, i 7], .c (.bool true)]⟩,
⟨91, 8, [.v (.c (.ptr 5 0)), .v (.c (i 8))], .tup [.agg [i 0, i 0, i 8], .c (.bool true)]⟩,
⟨91, 9, [.v (.c (.ptr 5 0)), .v (.c (i 9))], .tup [.agg [i 0, i 0, i 9], .c (.bool true)]⟩,
⟨91, 10, [.v (.c (.ptr 5 0)), .v (.c (i 10))], .tup [.agg [i 0, i 0, i 10], .c (.bool true)]⟩,
⟨91, 11, [.v (.c (.ptr 5 0)), .v (.c (i 11))], .tup [.agg [i 0, i 0, i 11], .c (.bool true)]⟩,
⟨91, 12, [.v (.c (.ptr 5 0)), .v (.c (i 12))], .tup [.agg [i 0, i 0, i 12], .c (.bool true)]⟩]⟩
private theorem m1_k : h1.tbl m1 = true := by kernel_rfl
private noncomputable def h2 : HK := h1.memo m1 m1_k
private noncomputable def s1 : RE := ⟨35, [.v (.c (.ptr 5 0))], 32, .v (.c (.ptr 32 0)), [(32, ⟨[o 40 0 1, o 44 0 1, o 91 0 1, o 82 0 1, o 84 0 1, i 5], 150, 0, none⟩),
(38, ⟨[i 0, i 1], 3, 1, none⟩),
(40, ⟨[o 38 0 2], 42, 1, none⟩),
(44, ⟨[i 2], 3, 1, none⟩),
(82, ⟨[i 1], 3, 1, none⟩),
(84, ⟨[i 0], 3, 1, none⟩),
(89, ⟨[i 3, i 4], 3, 1, none⟩),
(91, ⟨[o 89 0 2], 42, 1, none⟩)], 147⟩
private theorem s1_k : h2.srp l0 s1 = true := by kernel_rfl
private noncomputable def h3 : HK := h2.srep _ s1 s1_k
private noncomputable def s2 : RE := ⟨9, [.v (.c (.ptr 5 0)), .v (.c (.snil))], 32, .v (.c (.ptr 163 0)), l1, 568⟩
private theorem s2_k : h3.rep l0 s2 = true := by kernel_rfl
private noncomputable def h4 : HK := h3.repl _ s2 s2_k
private noncomputable def s3 : RE := ⟨43, [.v (.c (.ptr 5 0)), .v (.c (.ptr 163 0))], 570, .v (.c (.ptr 570 0)), l2, 956⟩
private theorem s3_k : h4.srp l3 s3 = true := by kernel_rfl
private noncomputable def h5 : HK := h4.srep _ s3 s3_k
private noncomputable def s4 : RE := ⟨11, [.v (.c (.ptr 5 0)), .v (.c (.ptr 163 0)), .v (.c (i 0))], 1364, .v (.c (o 1571 0 2)), [(1571, ⟨[i 1, i 0, i 1, i 1, i 0, i 0, i 0, i 0, i 0, i 0, i 0, i 0, i 0, i 0, i 0, i 0, i 0, i 0, i 0, i 0, i 0, i 0, i 0, i 0], 48, 2, none⟩)], 1766⟩
private theorem s4_k : h5.srp l3 s4 = true := by kernel_rfl
private noncomputable def h6 : HK := h5.srep _ s4 s4_k
theorem MemoryStores_10_0_run : isBool true (runW h6.K 3 [ai (Int.ofNat 10), ai (Int.ofNat 0)] s0) = true := by kernel_rfl
theorem MemoryStores_10_0_law {args : Array Value} (ha : VAs (fun _ => none) [ai (Int.ofNat 10), ai (Int.ofNat 0)] args.toList) (w : World) (hT : Tab w) :
    Calls Tryz.prog 3 args w fun e w' => Below w.heap.size w w' ∧ e = .returned (.bool true) := h6.law MemoryStores_10_0_run ha w hT
theorem MemoryStores_10_1_run : isBool true (runW h6.K 3 [ai (Int.ofNat 10), ai (Int.ofNat 1)] s0) = true := by kernel_rfl
theorem MemoryStores_10_1_law {args : Array Value} (ha : VAs (fun _ => none) [ai (Int.ofNat 10), ai (Int.ofNat 1)] args.toList) (w : World) (hT : Tab w) :
    Calls Tryz.prog 3 args w fun e w' => Below w.heap.size w w' ∧ e = .returned (.bool true) := h6.law MemoryStores_10_1_run ha w hT
theorem MemoryStores_10_2_run : isBool true (runW h6.K 3 [ai (Int.ofNat 10), ai (Int.ofNat 2)] s0) = true := by kernel_rfl
theorem MemoryStores_10_2_law {args : Array Value} (ha : VAs (fun _ => none) [ai (Int.ofNat 10), ai (Int.ofNat 2)] args.toList) (w : World) (hT : Tab w) :
    Calls Tryz.prog 3 args w fun e w' => Below w.heap.size w w' ∧ e = .returned (.bool true) := h6.law MemoryStores_10_2_run ha w hT
theorem MemoryStores_10_3_run : isBool true (runW h6.K 3 [ai (Int.ofNat 10), ai (Int.ofNat 3)] s0) = true := by kernel_rfl
theorem MemoryStores_10_3_law {args : Array Value} (ha : VAs (fun _ => none) [ai (Int.ofNat 10), ai (Int.ofNat 3)] args.toList) (w : World) (hT : Tab w) :
    Calls Tryz.prog 3 args w fun e w' => Below w.heap.size w w' ∧ e = .returned (.bool true) := h6.law MemoryStores_10_3_run ha w hT
theorem MemoryStores_10_4_run : isBool true (runW h6.K 3 [ai (Int.ofNat 10), ai (Int.ofNat 4)] s0) = true := by kernel_rfl
theorem MemoryStores_10_4_law {args : Array Value} (ha : VAs (fun _ => none) [ai (Int.ofNat 10), ai (Int.ofNat 4)] args.toList) (w : World) (hT : Tab w) :
    Calls Tryz.prog 3 args w fun e w' => Below w.heap.size w w' ∧ e = .returned (.bool true) := h6.law MemoryStores_10_4_run ha w hT
theorem MemoryStores_10_5_run : isBool true (runW h6.K 3 [ai (Int.ofNat 10), ai (Int.ofNat 5)] s0) = true := by kernel_rfl
theorem MemoryStores_10_5_law {args : Array Value} (ha : VAs (fun _ => none) [ai (Int.ofNat 10), ai (Int.ofNat 5)] args.toList) (w : World) (hT : Tab w) :
    Calls Tryz.prog 3 args w fun e w' => Below w.heap.size w w' ∧ e = .returned (.bool true) := h6.law MemoryStores_10_5_run ha w hT
theorem MemoryStores_10_6_run : isBool true (runW h6.K 3 [ai (Int.ofNat 10), ai (Int.ofNat 6)] s0) = true := by kernel_rfl
theorem MemoryStores_10_6_law {args : Array Value} (ha : VAs (fun _ => none) [ai (Int.ofNat 10), ai (Int.ofNat 6)] args.toList) (w : World) (hT : Tab w) :
    Calls Tryz.prog 3 args w fun e w' => Below w.heap.size w w' ∧ e = .returned (.bool true) := h6.law MemoryStores_10_6_run ha w hT
theorem MemoryStores_10_7_run : isBool true (runW h6.K 3 [ai (Int.ofNat 10), ai (Int.ofNat 7)] s0) = true := by kernel_rfl
theorem MemoryStores_10_7_law {args : Array Value} (ha : VAs (fun _ => none) [ai (Int.ofNat 10), ai (Int.ofNat 7)] args.toList) (w : World) (hT : Tab w) :
    Calls Tryz.prog 3 args w fun e w' => Below w.heap.size w w' ∧ e = .returned (.bool true) := h6.law MemoryStores_10_7_run ha w hT
theorem MemoryStores_10_8_run : isBool true (runW h6.K 3 [ai (Int.ofNat 10), ai (Int.ofNat 8)] s0) = true := by kernel_rfl
theorem MemoryStores_10_8_law {args : Array Value} (ha : VAs (fun _ => none) [ai (Int.ofNat 10), ai (Int.ofNat 8)] args.toList) (w : World) (hT : Tab w) :
    Calls Tryz.prog 3 args w fun e w' => Below w.heap.size w w' ∧ e = .returned (.bool true) := h6.law MemoryStores_10_8_run ha w hT
theorem MemoryStores_10_9_run : isBool true (runW h6.K 3 [ai (Int.ofNat 10), ai (Int.ofNat 9)] s0) = true := by kernel_rfl
theorem MemoryStores_10_9_law {args : Array Value} (ha : VAs (fun _ => none) [ai (Int.ofNat 10), ai (Int.ofNat 9)] args.toList) (w : World) (hT : Tab w) :
    Calls Tryz.prog 3 args w fun e w' => Below w.heap.size w w' ∧ e = .returned (.bool true) := h6.law MemoryStores_10_9_run ha w hT
theorem MemoryStores_10_10_run : isBool true (runW h6.K 3 [ai (Int.ofNat 10), ai (Int.ofNat 10)] s0) = true := by kernel_rfl
theorem MemoryStores_10_10_law {args : Array Value} (ha : VAs (fun _ => none) [ai (Int.ofNat 10), ai (Int.ofNat 10)] args.toList) (w : World) (hT : Tab w) :
    Calls Tryz.prog 3 args w fun e w' => Below w.heap.size w w' ∧ e = .returned (.bool true) := h6.law MemoryStores_10_10_run ha w hT
theorem MemoryStores_10_neg (j : Nat) : isBool true (runW hkT 3 [ai (Int.ofNat 10), ai (Int.negSucc j)] s0) = true := by kernel_rfl
theorem MemoryStores_10_big (j : Nat) : isBool true (runW hkT 3 [ai (Int.ofNat 10), ai (Int.ofNat (j + 11))] s0) = true := by kernel_rfl
theorem MemoryStores_10_all (w : World) (hT : Tab w) (m : Int) : Calls Tryz.prog 3 #[.int .i64 (Int.ofNat 10), .int .i64 m] w fun e w' => Below w.heap.size w w' ∧ e = .returned (.bool true) := by
  rcases m with m | k
  · by_cases h : 11 ≤ m
    · obtain ⟨k, rfl⟩ : ∃ k, m = k + 11 := ⟨m - 11, by omega⟩
      exact lawT (MemoryStores_10_big k) (by exact ⟨rfl, rfl, trivial⟩) w hT
    · rcases (by omega : m = 0 ∨ m = 1 ∨ m = 2 ∨ m = 3 ∨ m = 4 ∨ m = 5 ∨ m = 6 ∨ m = 7 ∨ m = 8 ∨ m = 9 ∨ m = 10) with rfl | rfl | rfl | rfl | rfl | rfl | rfl | rfl | rfl | rfl | rfl
      · exact MemoryStores_10_0_law (by exact ⟨rfl, rfl, trivial⟩) w hT
      · exact MemoryStores_10_1_law (by exact ⟨rfl, rfl, trivial⟩) w hT
      · exact MemoryStores_10_2_law (by exact ⟨rfl, rfl, trivial⟩) w hT
      · exact MemoryStores_10_3_law (by exact ⟨rfl, rfl, trivial⟩) w hT
      · exact MemoryStores_10_4_law (by exact ⟨rfl, rfl, trivial⟩) w hT
      · exact MemoryStores_10_5_law (by exact ⟨rfl, rfl, trivial⟩) w hT
      · exact MemoryStores_10_6_law (by exact ⟨rfl, rfl, trivial⟩) w hT
      · exact MemoryStores_10_7_law (by exact ⟨rfl, rfl, trivial⟩) w hT
      · exact MemoryStores_10_8_law (by exact ⟨rfl, rfl, trivial⟩) w hT
      · exact MemoryStores_10_9_law (by exact ⟨rfl, rfl, trivial⟩) w hT
      · exact MemoryStores_10_10_law (by exact ⟨rfl, rfl, trivial⟩) w hT
  · exact lawT (MemoryStores_10_neg k) (by exact ⟨rfl, rfl, trivial⟩) w hT
end Go.Proofs.YtjbnkokcbhfdgabGreatDoor
