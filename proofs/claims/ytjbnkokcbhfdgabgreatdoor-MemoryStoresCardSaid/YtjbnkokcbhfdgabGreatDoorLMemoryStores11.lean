/- Tables of calls, and a run that uses them. -/
import Derived.Test.YtjbnkokcbhfdgabGreatDoorLn22
namespace Go.Proofs.YtjbnkokcbhfdgabGreatDoor
open Go Go.RowKit Ev
set_option maxRecDepth 100000
set_option linter.unusedVariables false
private noncomputable abbrev i (n : Nat) : CV := .int .i64 (.ofNat n)
private noncomputable abbrev o (b a n : Nat) : CV := .slice b a n (.opn 0)
private noncomputable abbrev f (b a n : Nat) : CV := .slice b a n (.fix n)
private noncomputable abbrev e (k t : Nat) : Nat × BK := (k, ⟨[.snil], t, 0, none⟩)
private noncomputable abbrev l0 : Bls := [(0, ⟨[.snil, i 0, i 0], 89, 0, none⟩),
(3, ⟨[o 33 0 13, i 3, i 0, i 0, i 0], 41, 0, none⟩),
(4, ⟨[i 0, o 9 0 2, f 3 0 1], 38, 0, none⟩),
(5, ⟨[f 7 0 1, f 0 0 1, .snil, .snil, f 4 0 1, i 0], 34, 0, none⟩),
(6, ⟨[i 0, i 0, i 0, i 0], 26, 0, none⟩),
(7, ⟨[f 6 0 2], 27, 0, none⟩),
(9, ⟨[i 0, i 0, i 1, i 0], 26, 2, none⟩),
(33, ⟨[i 1, i 0, i 0, i 0, i 7, .snil, i 5, i 1, i 0, i 0, i 0, .snil, i 8, i 0, i 1, i 0, i 0, .snil, i 8, i 0, i 1, i 0, i 1, .snil, i 8, i 0, i 1, i 0, i 0, .snil, i 8, i 0, i 1, i 0, i 1, .snil, i 8, i 0, i 1, i 0, i 0, .snil, i 8, i 0, i 1, i 0, i 1, .snil, i 8, i 0, i 1, i 0, i 0, .snil, i 8, i 0, i 1, i 0, i 1, .snil, i 8, i 0, i 1, i 0, i 0, .snil, i 8, i 0, i 1, i 0, i 1, .snil, i 8, i 0, i 1, i 0, i 0, .snil], 44, 6, none⟩)]
private noncomputable abbrev l1 : Bls := [(34, ⟨[o 42 0 1, o 46 0 1, o 95 0 1, o 86 0 1, o 88 0 1, i 5], 150, 0, none⟩),
(40, ⟨[i 0, i 1], 3, 1, none⟩),
(42, ⟨[o 40 0 2], 42, 1, none⟩),
(46, ⟨[i 2], 3, 1, none⟩),
(86, ⟨[i 1], 3, 1, none⟩),
(88, ⟨[i 0], 3, 1, none⟩),
(93, ⟨[i 3, i 4], 3, 1, none⟩),
(95, ⟨[o 93 0 2], 42, 1, none⟩),
(156, ⟨[o 166 0 5], 157, 0, none⟩),
(166, ⟨[i 0, i 1, i 2, i 3, i 4], 3, 1, none⟩),
(167, ⟨[.snil, .snil, .snil, .snil, .snil], 162, 0, none⟩),
(168, ⟨[o 219 0 1], 99, 0, none⟩),
(169, ⟨[], 0, 0, some (.map [] 0)⟩),
(170, ⟨[], 0, 0, some (.map [] 1)⟩),
(171, ⟨[.snil, o 496 0 0, .map 170, i 1], 161, 0, none⟩),
(172, ⟨[.ptr 5 0, .ptr 34 0, .ptr 156 0, o 211 0 5, o 214 0 5, o 217 0 5, f 167 0 5, .ptr 168 0, .map 169, .ptr 171 0], 105, 0, none⟩),
e 173 99,
e 176 99,
e 179 99,
(182, ⟨[o 494 0 1], 99, 0, none⟩),
e 188 99,
e 191 99,
e 194 99,
e 197 99,
e 200 99,
e 203 99,
e 206 99,
e 209 99,
(211, ⟨[.ptr 173 0, .ptr 182 0, .ptr 191 0, .ptr 200 0, .ptr 209 0], 96, 1, none⟩),
e 212 99,
(214, ⟨[.ptr 176 0, .ptr 600 0, .ptr 194 0, .ptr 203 0, .ptr 212 0], 96, 1, none⟩),
e 215 99,
(217, ⟨[.ptr 179 0, .ptr 188 0, .ptr 197 0, .ptr 206 0, .ptr 215 0], 96, 1, none⟩),
(219, ⟨[.int .u64 (.ofNat 1)], 229, 1, none⟩),
(494, ⟨[.int .u64 (.ofNat 1)], 229, 1, none⟩),
(496, ⟨[i 0], 3, 1, none⟩),
(599, ⟨[.int .u64 (.ofNat 1)], 229, 1, none⟩),
(600, ⟨[o 599 0 1], 99, 0, none⟩)]
private noncomputable abbrev l2 : Bls := [(603, ⟨[.ptr 5 0, .ptr 172 0, o 1019 0 14, o 691 0 1], 178, 0, none⟩),
(606, ⟨[i 0, f 608 0 14], 258, 0, none⟩),
(608, ⟨[.snil, o 614 0 1, o 620 0 1, o 626 0 1, o 632 0 1, o 638 0 1, o 644 0 1, o 650 0 1, o 656 0 1, o 662 0 1, o 668 0 1, o 674 0 1, o 680 0 1, o 686 0 1], 42, 0, none⟩),
(614, ⟨[i 0], 3, 1, none⟩),
(620, ⟨[i 1], 3, 1, none⟩),
(626, ⟨[i 2], 3, 1, none⟩),
(632, ⟨[i 3], 3, 1, none⟩),
(638, ⟨[i 4], 3, 1, none⟩),
(644, ⟨[i 5], 3, 1, none⟩),
(650, ⟨[i 6], 3, 1, none⟩),
(656, ⟨[i 7], 3, 1, none⟩),
(662, ⟨[i 8], 3, 1, none⟩),
(668, ⟨[i 9], 3, 1, none⟩),
(674, ⟨[i 10], 3, 1, none⟩),
(680, ⟨[i 11], 3, 1, none⟩),
(686, ⟨[i 12], 3, 1, none⟩),
(691, ⟨[.ptr 606 0], 179, 1, none⟩),
(721, ⟨[], 0, 0, some (.map [] 0)⟩),
(734, ⟨[], 0, 0, some (.map [(0, .agg [i 1, i 0], .c (.bool true)), (1, .agg [i 1, i 1], .c (.bool true))] 2)⟩),
(756, ⟨[], 0, 0, some (.map [(0, .agg [i 1, i 0], .c (.bool true))] 1)⟩),
(779, ⟨[], 0, 0, some (.map [(0, .agg [i 1, i 1], .c (.bool true))] 1)⟩),
(802, ⟨[], 0, 0, some (.map [(0, .agg [i 1, i 0], .c (.bool true))] 1)⟩),
(825, ⟨[], 0, 0, some (.map [(0, .agg [i 1, i 1], .c (.bool true))] 1)⟩),
(848, ⟨[], 0, 0, some (.map [(0, .agg [i 1, i 0], .c (.bool true))] 1)⟩),
(871, ⟨[], 0, 0, some (.map [(0, .agg [i 1, i 1], .c (.bool true))] 1)⟩),
(894, ⟨[], 0, 0, some (.map [(0, .agg [i 1, i 0], .c (.bool true))] 1)⟩),
(917, ⟨[], 0, 0, some (.map [(0, .agg [i 1, i 1], .c (.bool true))] 1)⟩),
(940, ⟨[], 0, 0, some (.map [(0, .agg [i 1, i 0], .c (.bool true))] 1)⟩),
(963, ⟨[], 0, 0, some (.map [(0, .agg [i 1, i 1], .c (.bool true))] 1)⟩),
(986, ⟨[], 0, 0, some (.map [(0, .agg [i 1, i 0], .c (.bool true))] 1)⟩),
(1009, ⟨[], 0, 0, some (.map [] 0)⟩),
(1019, ⟨[.map 721, .map 734, .map 756, .map 779, .map 802, .map 825, .map 848, .map 871, .map 894, .map 917, .map 940, .map 963, .map 986, .map 1009], 181, 1, none⟩)]
private noncomputable abbrev l3 : Bls := [(0, ⟨[.snil, i 0, i 0], 89, 0, none⟩),
(3, ⟨[o 33 0 13, i 3, i 0, i 0, i 0], 41, 0, none⟩),
(4, ⟨[i 0, o 9 0 2, f 3 0 1], 38, 0, none⟩),
(5, ⟨[f 7 0 1, f 0 0 1, .snil, .snil, f 4 0 1, i 0], 34, 0, none⟩),
(6, ⟨[i 0, i 0, i 0, i 0], 26, 0, none⟩),
(7, ⟨[f 6 0 2], 27, 0, none⟩),
(9, ⟨[i 0, i 0, i 1, i 0], 26, 2, none⟩),
(33, ⟨[i 1, i 0, i 0, i 0, i 7, .snil, i 5, i 1, i 0, i 0, i 0, .snil, i 8, i 0, i 1, i 0, i 0, .snil, i 8, i 0, i 1, i 0, i 1, .snil, i 8, i 0, i 1, i 0, i 0, .snil, i 8, i 0, i 1, i 0, i 1, .snil, i 8, i 0, i 1, i 0, i 0, .snil, i 8, i 0, i 1, i 0, i 1, .snil, i 8, i 0, i 1, i 0, i 0, .snil, i 8, i 0, i 1, i 0, i 1, .snil, i 8, i 0, i 1, i 0, i 0, .snil, i 8, i 0, i 1, i 0, i 1, .snil, i 8, i 0, i 1, i 0, i 0, .snil], 44, 6, none⟩),
(34, ⟨[o 42 0 1, o 46 0 1, o 95 0 1, o 86 0 1, o 88 0 1, i 5], 150, 0, none⟩),
(40, ⟨[i 0, i 1], 3, 1, none⟩),
(42, ⟨[o 40 0 2], 42, 1, none⟩),
(46, ⟨[i 2], 3, 1, none⟩),
(86, ⟨[i 1], 3, 1, none⟩),
(88, ⟨[i 0], 3, 1, none⟩),
(93, ⟨[i 3, i 4], 3, 1, none⟩),
(95, ⟨[o 93 0 2], 42, 1, none⟩),
(156, ⟨[o 166 0 5], 157, 0, none⟩),
(166, ⟨[i 0, i 1, i 2, i 3, i 4], 3, 1, none⟩),
(167, ⟨[.snil, .snil, .snil, .snil, .snil], 162, 0, none⟩),
(168, ⟨[o 219 0 1], 99, 0, none⟩),
(169, ⟨[], 0, 0, some (.map [] 0)⟩),
(170, ⟨[], 0, 0, some (.map [] 1)⟩),
(171, ⟨[.snil, o 496 0 0, .map 170, i 1], 161, 0, none⟩),
(172, ⟨[.ptr 5 0, .ptr 34 0, .ptr 156 0, o 211 0 5, o 214 0 5, o 217 0 5, f 167 0 5, .ptr 168 0, .map 169, .ptr 171 0], 105, 0, none⟩),
e 173 99,
e 176 99,
e 179 99,
(182, ⟨[o 494 0 1], 99, 0, none⟩),
e 188 99,
e 191 99,
e 194 99,
e 197 99,
e 200 99,
e 203 99,
e 206 99,
e 209 99,
(211, ⟨[.ptr 173 0, .ptr 182 0, .ptr 191 0, .ptr 200 0, .ptr 209 0], 96, 1, none⟩),
e 212 99,
(214, ⟨[.ptr 176 0, .ptr 600 0, .ptr 194 0, .ptr 203 0, .ptr 212 0], 96, 1, none⟩),
e 215 99,
(217, ⟨[.ptr 179 0, .ptr 188 0, .ptr 197 0, .ptr 206 0, .ptr 215 0], 96, 1, none⟩),
(219, ⟨[.int .u64 (.ofNat 1)], 229, 1, none⟩),
(494, ⟨[.int .u64 (.ofNat 1)], 229, 1, none⟩),
(496, ⟨[i 0], 3, 1, none⟩),
(599, ⟨[.int .u64 (.ofNat 1)], 229, 1, none⟩),
(600, ⟨[o 599 0 1], 99, 0, none⟩)]
private noncomputable def m0 : MM := ⟨[56], l0, 34, [⟨56, 0, [.v (.c (.ptr 5 0))], .v (.c (.nili))⟩]⟩
private theorem m0_k : H0.tbl m0 = true := by kernel_rfl
private noncomputable def h1 : HK := H0.memo m0 m0_k
private noncomputable def m1 : MM := ⟨[91], [(3, ⟨[o 33 0 13, i 3, i 0, i 0, i 0], 41, 0, none⟩),
(4, ⟨[i 0, o 9 0 2, f 3 0 1], 38, 0, none⟩),
(5, ⟨[f 7 0 1, f 0 0 1, .snil, .snil, f 4 0 1, i 0], 34, 0, none⟩)], 77, [⟨91, 0, [.v (.c (.ptr 5 0)), .v (.c (i 0))], .tup [.agg [i 0, i 0, i 0], .c (.bool true)]⟩,
⟨91, 1, [.v (.c (.ptr 5 0)), .v (.c (i 1))], .tup [.agg [i 0, i 0, i 1], .c (.bool true)]⟩,
⟨91, 2, [.v (.c (.ptr 5 0)), .v (.c (i 2))], .tup [.agg [i 0, i 0, i 2], .c (.bool true)]⟩,
⟨91, 3, [.v (.c (.ptr 5 0)), .v (.c (i 3))], .tup [.agg [i 0, i 0, i 3], .c (.bool true)]⟩,
⟨91, 4, [.v (.c (.ptr 5 0)), .v (.c (i 4))], .tup [.agg [i 0, i 0, i 4], .c (.bool true)]⟩,
⟨91, 5, [.v (.c (.ptr 5 0)), .v (.c (i 5))], .tup [.agg [i 0, i 0, i 5], .c (.bool true)]⟩,
⟨91, 6, [.v (.c (.ptr 5 0)), .v (.c (i 6))], .tup [.agg [i 0, i 0, i 6], .c (.bool true)]⟩,
⟨91, 7, [.v (.c (.ptr 5 0)), .v (.c (i 7))], .tup [.agg [i 0, i 0, i 7], .c (.bool true)]⟩,
⟨91, 8, [.v (.c (.ptr 5 0)), .v (.c (i 8))], .tup [.agg [i 0, i 0, i 8], .c (.bool true)]⟩,
⟨91, 9, [.v (.c (.ptr 5 0)), .v (.c (i 9))], .tup [.agg [i 0, i 0, i 9], .c (.bool true)]⟩,
⟨91, 10, [.v (.c (.ptr 5 0)), .v (.c (i 10))], .tup [.agg [i 0, i 0, i 10], .c (.bool true)]⟩,
⟨91, 11, [.v (.c (.ptr 5 0)), .v (.c (i 11))], .tup [.agg [i 0, i 0, i 11], .c (.bool true)]⟩,
⟨91, 12, [.v (.c (.ptr 5 0)), .v (.c (i 12))], .tup [.agg [i 0, i 0, i 12], .c (.bool true)]⟩,
⟨91, 13, [.v (.c (.ptr 5 0)), .v (.c (i 13))], .tup [.agg [i 0, i 0, i 13], .c (.bool true)]⟩]⟩
private theorem m1_k : h1.tbl m1 = true := by kernel_rfl
private noncomputable def h2 : HK := h1.memo m1 m1_k
private noncomputable def s1 : RE := ⟨35, [.v (.c (.ptr 5 0))], 34, .v (.c (.ptr 34 0)), [(34, ⟨[o 42 0 1, o 46 0 1, o 95 0 1, o 86 0 1, o 88 0 1, i 5], 150, 0, none⟩),
(40, ⟨[i 0, i 1], 3, 1, none⟩),
(42, ⟨[o 40 0 2], 42, 1, none⟩),
(46, ⟨[i 2], 3, 1, none⟩),
(86, ⟨[i 1], 3, 1, none⟩),
(88, ⟨[i 0], 3, 1, none⟩),
(93, ⟨[i 3, i 4], 3, 1, none⟩),
(95, ⟨[o 93 0 2], 42, 1, none⟩)], 156⟩
private theorem s1_k : h2.srp l0 s1 = true := by kernel_rfl
private noncomputable def h3 : HK := h2.srep _ s1 s1_k
private noncomputable def s2 : RE := ⟨9, [.v (.c (.ptr 5 0)), .v (.c (.snil))], 34, .v (.c (.ptr 172 0)), l1, 601⟩
private theorem s2_k : h3.rep l0 s2 = true := by kernel_rfl
private noncomputable def h4 : HK := h3.repl _ s2 s2_k
private noncomputable def s3 : RE := ⟨43, [.v (.c (.ptr 5 0)), .v (.c (.ptr 172 0))], 603, .v (.c (.ptr 603 0)), l2, 1020⟩
private theorem s3_k : h4.srp l3 s3 = true := by kernel_rfl
private noncomputable def h5 : HK := h4.srep _ s3 s3_k
private noncomputable def s4 : RE := ⟨11, [.v (.c (.ptr 5 0)), .v (.c (.ptr 172 0)), .v (.c (i 0))], 1459, .v (.c (o 1683 0 2)), [(1683, ⟨[i 1, i 0, i 1, i 1, i 0, i 0, i 0, i 0, i 0, i 0, i 0, i 0, i 0, i 0, i 0, i 0, i 0, i 0, i 0, i 0, i 0, i 0, i 0, i 0, i 0, i 0], 48, 2, none⟩)], 1883⟩
private theorem s4_k : h5.srp l3 s4 = true := by kernel_rfl
private noncomputable def h6 : HK := h5.srep _ s4 s4_k
theorem MemoryStores_11_0_run : isBool true (runW h6.K 3 [ai (Int.ofNat 11), ai (Int.ofNat 0)] s0) = true := by kernel_rfl
theorem MemoryStores_11_0_law {args : Array Value} (ha : VAs (fun _ => none) [ai (Int.ofNat 11), ai (Int.ofNat 0)] args.toList) (w : World) (hT : Tab w) :
    Calls Tryz.prog 3 args w fun e w' => Below w.heap.size w w' ∧ e = .returned (.bool true) := h6.law MemoryStores_11_0_run ha w hT
theorem MemoryStores_11_1_run : isBool true (runW h6.K 3 [ai (Int.ofNat 11), ai (Int.ofNat 1)] s0) = true := by kernel_rfl
theorem MemoryStores_11_1_law {args : Array Value} (ha : VAs (fun _ => none) [ai (Int.ofNat 11), ai (Int.ofNat 1)] args.toList) (w : World) (hT : Tab w) :
    Calls Tryz.prog 3 args w fun e w' => Below w.heap.size w w' ∧ e = .returned (.bool true) := h6.law MemoryStores_11_1_run ha w hT
theorem MemoryStores_11_2_run : isBool true (runW h6.K 3 [ai (Int.ofNat 11), ai (Int.ofNat 2)] s0) = true := by kernel_rfl
theorem MemoryStores_11_2_law {args : Array Value} (ha : VAs (fun _ => none) [ai (Int.ofNat 11), ai (Int.ofNat 2)] args.toList) (w : World) (hT : Tab w) :
    Calls Tryz.prog 3 args w fun e w' => Below w.heap.size w w' ∧ e = .returned (.bool true) := h6.law MemoryStores_11_2_run ha w hT
theorem MemoryStores_11_3_run : isBool true (runW h6.K 3 [ai (Int.ofNat 11), ai (Int.ofNat 3)] s0) = true := by kernel_rfl
theorem MemoryStores_11_3_law {args : Array Value} (ha : VAs (fun _ => none) [ai (Int.ofNat 11), ai (Int.ofNat 3)] args.toList) (w : World) (hT : Tab w) :
    Calls Tryz.prog 3 args w fun e w' => Below w.heap.size w w' ∧ e = .returned (.bool true) := h6.law MemoryStores_11_3_run ha w hT
theorem MemoryStores_11_4_run : isBool true (runW h6.K 3 [ai (Int.ofNat 11), ai (Int.ofNat 4)] s0) = true := by kernel_rfl
theorem MemoryStores_11_4_law {args : Array Value} (ha : VAs (fun _ => none) [ai (Int.ofNat 11), ai (Int.ofNat 4)] args.toList) (w : World) (hT : Tab w) :
    Calls Tryz.prog 3 args w fun e w' => Below w.heap.size w w' ∧ e = .returned (.bool true) := h6.law MemoryStores_11_4_run ha w hT
theorem MemoryStores_11_5_run : isBool true (runW h6.K 3 [ai (Int.ofNat 11), ai (Int.ofNat 5)] s0) = true := by kernel_rfl
theorem MemoryStores_11_5_law {args : Array Value} (ha : VAs (fun _ => none) [ai (Int.ofNat 11), ai (Int.ofNat 5)] args.toList) (w : World) (hT : Tab w) :
    Calls Tryz.prog 3 args w fun e w' => Below w.heap.size w w' ∧ e = .returned (.bool true) := h6.law MemoryStores_11_5_run ha w hT
theorem MemoryStores_11_6_run : isBool true (runW h6.K 3 [ai (Int.ofNat 11), ai (Int.ofNat 6)] s0) = true := by kernel_rfl
theorem MemoryStores_11_6_law {args : Array Value} (ha : VAs (fun _ => none) [ai (Int.ofNat 11), ai (Int.ofNat 6)] args.toList) (w : World) (hT : Tab w) :
    Calls Tryz.prog 3 args w fun e w' => Below w.heap.size w w' ∧ e = .returned (.bool true) := h6.law MemoryStores_11_6_run ha w hT
theorem MemoryStores_11_7_run : isBool true (runW h6.K 3 [ai (Int.ofNat 11), ai (Int.ofNat 7)] s0) = true := by kernel_rfl
theorem MemoryStores_11_7_law {args : Array Value} (ha : VAs (fun _ => none) [ai (Int.ofNat 11), ai (Int.ofNat 7)] args.toList) (w : World) (hT : Tab w) :
    Calls Tryz.prog 3 args w fun e w' => Below w.heap.size w w' ∧ e = .returned (.bool true) := h6.law MemoryStores_11_7_run ha w hT
theorem MemoryStores_11_8_run : isBool true (runW h6.K 3 [ai (Int.ofNat 11), ai (Int.ofNat 8)] s0) = true := by kernel_rfl
theorem MemoryStores_11_8_law {args : Array Value} (ha : VAs (fun _ => none) [ai (Int.ofNat 11), ai (Int.ofNat 8)] args.toList) (w : World) (hT : Tab w) :
    Calls Tryz.prog 3 args w fun e w' => Below w.heap.size w w' ∧ e = .returned (.bool true) := h6.law MemoryStores_11_8_run ha w hT
theorem MemoryStores_11_9_run : isBool true (runW h6.K 3 [ai (Int.ofNat 11), ai (Int.ofNat 9)] s0) = true := by kernel_rfl
theorem MemoryStores_11_9_law {args : Array Value} (ha : VAs (fun _ => none) [ai (Int.ofNat 11), ai (Int.ofNat 9)] args.toList) (w : World) (hT : Tab w) :
    Calls Tryz.prog 3 args w fun e w' => Below w.heap.size w w' ∧ e = .returned (.bool true) := h6.law MemoryStores_11_9_run ha w hT
theorem MemoryStores_11_10_run : isBool true (runW h6.K 3 [ai (Int.ofNat 11), ai (Int.ofNat 10)] s0) = true := by kernel_rfl
theorem MemoryStores_11_10_law {args : Array Value} (ha : VAs (fun _ => none) [ai (Int.ofNat 11), ai (Int.ofNat 10)] args.toList) (w : World) (hT : Tab w) :
    Calls Tryz.prog 3 args w fun e w' => Below w.heap.size w w' ∧ e = .returned (.bool true) := h6.law MemoryStores_11_10_run ha w hT
theorem MemoryStores_11_11_run : isBool true (runW h6.K 3 [ai (Int.ofNat 11), ai (Int.ofNat 11)] s0) = true := by kernel_rfl
theorem MemoryStores_11_11_law {args : Array Value} (ha : VAs (fun _ => none) [ai (Int.ofNat 11), ai (Int.ofNat 11)] args.toList) (w : World) (hT : Tab w) :
    Calls Tryz.prog 3 args w fun e w' => Below w.heap.size w w' ∧ e = .returned (.bool true) := h6.law MemoryStores_11_11_run ha w hT
theorem MemoryStores_11_neg (j : Nat) : isBool true (runW hkT 3 [ai (Int.ofNat 11), ai (Int.negSucc j)] s0) = true := by kernel_rfl
theorem MemoryStores_11_big (j : Nat) : isBool true (runW hkT 3 [ai (Int.ofNat 11), ai (Int.ofNat (j + 12))] s0) = true := by kernel_rfl
theorem MemoryStores_11_all (w : World) (hT : Tab w) (m : Int) : Calls Tryz.prog 3 #[.int .i64 (Int.ofNat 11), .int .i64 m] w fun e w' => Below w.heap.size w w' ∧ e = .returned (.bool true) := by
  rcases m with m | k
  · by_cases h : 12 ≤ m
    · obtain ⟨k, rfl⟩ : ∃ k, m = k + 12 := ⟨m - 12, by omega⟩
      exact lawT (MemoryStores_11_big k) (by exact ⟨rfl, rfl, trivial⟩) w hT
    · rcases (by omega : m = 0 ∨ m = 1 ∨ m = 2 ∨ m = 3 ∨ m = 4 ∨ m = 5 ∨ m = 6 ∨ m = 7 ∨ m = 8 ∨ m = 9 ∨ m = 10 ∨ m = 11) with rfl | rfl | rfl | rfl | rfl | rfl | rfl | rfl | rfl | rfl | rfl | rfl
      · exact MemoryStores_11_0_law (by exact ⟨rfl, rfl, trivial⟩) w hT
      · exact MemoryStores_11_1_law (by exact ⟨rfl, rfl, trivial⟩) w hT
      · exact MemoryStores_11_2_law (by exact ⟨rfl, rfl, trivial⟩) w hT
      · exact MemoryStores_11_3_law (by exact ⟨rfl, rfl, trivial⟩) w hT
      · exact MemoryStores_11_4_law (by exact ⟨rfl, rfl, trivial⟩) w hT
      · exact MemoryStores_11_5_law (by exact ⟨rfl, rfl, trivial⟩) w hT
      · exact MemoryStores_11_6_law (by exact ⟨rfl, rfl, trivial⟩) w hT
      · exact MemoryStores_11_7_law (by exact ⟨rfl, rfl, trivial⟩) w hT
      · exact MemoryStores_11_8_law (by exact ⟨rfl, rfl, trivial⟩) w hT
      · exact MemoryStores_11_9_law (by exact ⟨rfl, rfl, trivial⟩) w hT
      · exact MemoryStores_11_10_law (by exact ⟨rfl, rfl, trivial⟩) w hT
      · exact MemoryStores_11_11_law (by exact ⟨rfl, rfl, trivial⟩) w hT
  · exact lawT (MemoryStores_11_neg k) (by exact ⟨rfl, rfl, trivial⟩) w hT
end Go.Proofs.YtjbnkokcbhfdgabGreatDoor
