/- Tables of calls, and a run that uses them. -/
import Derived.Test.YtjbnkokcbhfdgabGreatDoorLn22
namespace Go.Proofs.YtjbnkokcbhfdgabGreatDoor
open Go Go.RowKit Ev
set_option maxRecDepth 100000
set_option linter.unusedVariables false
private noncomputable abbrev i (n : Nat) : CV := .int .i64 (.ofNat n)
private noncomputable abbrev o (b a n : Nat) : CV := .slice b a n (.opn 0)
private noncomputable abbrev f (b a n : Nat) : CV := .slice b a n (.fix n)
private noncomputable abbrev e (k t : Nat) : Nat × BK := (k, ⟨[.snil], t, 0, none⟩)
private noncomputable abbrev l0 : Bls := [(0, ⟨[.snil, i 0, i 0], 89, 0, none⟩),
(3, ⟨[o 39 0 16, i 3, i 0, i 0, i 0], 41, 0, none⟩),
(4, ⟨[i 0, o 9 0 2, f 3 0 1], 38, 0, none⟩),
(5, ⟨[f 7 0 1, f 0 0 1, .snil, .snil, f 4 0 1, i 0], 34, 0, none⟩),
(6, ⟨[i 0, i 0, i 0, i 0], 26, 0, none⟩),
(7, ⟨[f 6 0 2], 27, 0, none⟩),
(9, ⟨[i 0, i 0, i 1, i 0], 26, 2, none⟩),
(39, ⟨[i 1, i 0, i 0, i 0, i 7, .snil, i 5, i 1, i 0, i 0, i 0, .snil, i 8, i 0, i 1, i 0, i 0, .snil, i 8, i 0, i 1, i 0, i 1, .snil, i 8, i 0, i 1, i 0, i 0, .snil, i 8, i 0, i 1, i 0, i 1, .snil, i 8, i 0, i 1, i 0, i 0, .snil, i 8, i 0, i 1, i 0, i 1, .snil, i 8, i 0, i 1, i 0, i 0, .snil, i 8, i 0, i 1, i 0, i 1, .snil, i 8, i 0, i 1, i 0, i 0, .snil, i 8, i 0, i 1, i 0, i 1, .snil, i 8, i 0, i 1, i 0, i 0, .snil, i 8, i 0, i 1, i 0, i 1, .snil, i 8, i 0, i 1, i 0, i 0, .snil, i 8, i 0, i 1, i 0, i 1, .snil], 44, 6, none⟩)]
private noncomputable abbrev l1 : Bls := [(40, ⟨[o 48 0 1, o 52 0 1, o 107 0 1, o 98 0 1, o 100 0 1, i 5], 150, 0, none⟩),
(46, ⟨[i 0, i 1], 3, 1, none⟩),
(48, ⟨[o 46 0 2], 42, 1, none⟩),
(52, ⟨[i 2], 3, 1, none⟩),
(98, ⟨[i 1], 3, 1, none⟩),
(100, ⟨[i 0], 3, 1, none⟩),
(105, ⟨[i 3, i 4], 3, 1, none⟩),
(107, ⟨[o 105 0 2], 42, 1, none⟩),
(183, ⟨[o 193 0 5], 157, 0, none⟩),
(193, ⟨[i 0, i 1, i 2, i 3, i 4], 3, 1, none⟩),
(194, ⟨[.snil, .snil, .snil, .snil, .snil], 162, 0, none⟩),
(195, ⟨[o 246 0 1], 99, 0, none⟩),
(196, ⟨[], 0, 0, some (.map [] 0)⟩),
(197, ⟨[], 0, 0, some (.map [] 1)⟩),
(198, ⟨[.snil, o 574 0 0, .map 197, i 1], 161, 0, none⟩),
(199, ⟨[.ptr 5 0, .ptr 40 0, .ptr 183 0, o 238 0 5, o 241 0 5, o 244 0 5, f 194 0 5, .ptr 195 0, .map 196, .ptr 198 0], 105, 0, none⟩),
e 200 99,
e 203 99,
e 206 99,
(209, ⟨[o 572 0 1], 99, 0, none⟩),
e 215 99,
e 218 99,
e 221 99,
e 224 99,
e 227 99,
e 230 99,
e 233 99,
e 236 99,
(238, ⟨[.ptr 200 0, .ptr 209 0, .ptr 218 0, .ptr 227 0, .ptr 236 0], 96, 1, none⟩),
e 239 99,
(241, ⟨[.ptr 203 0, .ptr 699 0, .ptr 221 0, .ptr 230 0, .ptr 239 0], 96, 1, none⟩),
e 242 99,
(244, ⟨[.ptr 206 0, .ptr 215 0, .ptr 224 0, .ptr 233 0, .ptr 242 0], 96, 1, none⟩),
(246, ⟨[.int .u64 (.ofNat 1)], 229, 1, none⟩),
(572, ⟨[.int .u64 (.ofNat 1)], 229, 1, none⟩),
(574, ⟨[i 0], 3, 1, none⟩),
(698, ⟨[.int .u64 (.ofNat 1)], 229, 1, none⟩),
(699, ⟨[o 698 0 1], 99, 0, none⟩)]
private noncomputable abbrev l2 : Bls := [(702, ⟨[.ptr 5 0, .ptr 199 0, o 1211 0 17, o 808 0 1], 178, 0, none⟩),
(705, ⟨[i 0, f 707 0 17], 258, 0, none⟩),
(707, ⟨[.snil, o 713 0 1, o 719 0 1, o 725 0 1, o 731 0 1, o 737 0 1, o 743 0 1, o 749 0 1, o 755 0 1, o 761 0 1, o 767 0 1, o 773 0 1, o 779 0 1, o 785 0 1, o 791 0 1, o 797 0 1, o 803 0 1], 42, 0, none⟩),
(713, ⟨[i 0], 3, 1, none⟩),
(719, ⟨[i 1], 3, 1, none⟩),
(725, ⟨[i 2], 3, 1, none⟩),
(731, ⟨[i 3], 3, 1, none⟩),
(737, ⟨[i 4], 3, 1, none⟩),
(743, ⟨[i 5], 3, 1, none⟩),
(749, ⟨[i 6], 3, 1, none⟩),
(755, ⟨[i 7], 3, 1, none⟩),
(761, ⟨[i 8], 3, 1, none⟩),
(767, ⟨[i 9], 3, 1, none⟩),
(773, ⟨[i 10], 3, 1, none⟩),
(779, ⟨[i 11], 3, 1, none⟩),
(785, ⟨[i 12], 3, 1, none⟩),
(791, ⟨[i 13], 3, 1, none⟩),
(797, ⟨[i 14], 3, 1, none⟩),
(803, ⟨[i 15], 3, 1, none⟩),
(808, ⟨[.ptr 705 0], 179, 1, none⟩),
(844, ⟨[], 0, 0, some (.map [] 0)⟩),
(857, ⟨[], 0, 0, some (.map [(0, .agg [i 1, i 0], .c (.bool true)), (1, .agg [i 1, i 1], .c (.bool true))] 2)⟩),
(879, ⟨[], 0, 0, some (.map [(0, .agg [i 1, i 0], .c (.bool true))] 1)⟩),
(902, ⟨[], 0, 0, some (.map [(0, .agg [i 1, i 1], .c (.bool true))] 1)⟩),
(925, ⟨[], 0, 0, some (.map [(0, .agg [i 1, i 0], .c (.bool true))] 1)⟩),
(948, ⟨[], 0, 0, some (.map [(0, .agg [i 1, i 1], .c (.bool true))] 1)⟩),
(971, ⟨[], 0, 0, some (.map [(0, .agg [i 1, i 0], .c (.bool true))] 1)⟩),
(994, ⟨[], 0, 0, some (.map [(0, .agg [i 1, i 1], .c (.bool true))] 1)⟩),
(1017, ⟨[], 0, 0, some (.map [(0, .agg [i 1, i 0], .c (.bool true))] 1)⟩),
(1040, ⟨[], 0, 0, some (.map [(0, .agg [i 1, i 1], .c (.bool true))] 1)⟩),
(1063, ⟨[], 0, 0, some (.map [(0, .agg [i 1, i 0], .c (.bool true))] 1)⟩),
(1086, ⟨[], 0, 0, some (.map [(0, .agg [i 1, i 1], .c (.bool true))] 1)⟩),
(1109, ⟨[], 0, 0, some (.map [(0, .agg [i 1, i 0], .c (.bool true))] 1)⟩),
(1132, ⟨[], 0, 0, some (.map [(0, .agg [i 1, i 1], .c (.bool true))] 1)⟩),
(1155, ⟨[], 0, 0, some (.map [(0, .agg [i 1, i 0], .c (.bool true))] 1)⟩),
(1178, ⟨[], 0, 0, some (.map [(0, .agg [i 1, i 1], .c (.bool true))] 1)⟩),
(1201, ⟨[], 0, 0, some (.map [] 0)⟩),
(1211, ⟨[.map 844, .map 857, .map 879, .map 902, .map 925, .map 948, .map 971, .map 994, .map 1017, .map 1040, .map 1063, .map 1086, .map 1109, .map 1132, .map 1155, .map 1178, .map 1201], 181, 1, none⟩)]
private noncomputable abbrev l3 : Bls := [(0, ⟨[.snil, i 0, i 0], 89, 0, none⟩),
(3, ⟨[o 39 0 16, i 3, i 0, i 0, i 0], 41, 0, none⟩),
(4, ⟨[i 0, o 9 0 2, f 3 0 1], 38, 0, none⟩),
(5, ⟨[f 7 0 1, f 0 0 1, .snil, .snil, f 4 0 1, i 0], 34, 0, none⟩),
(6, ⟨[i 0, i 0, i 0, i 0], 26, 0, none⟩),
(7, ⟨[f 6 0 2], 27, 0, none⟩),
(9, ⟨[i 0, i 0, i 1, i 0], 26, 2, none⟩),
(39, ⟨[i 1, i 0, i 0, i 0, i 7, .snil, i 5, i 1, i 0, i 0, i 0, .snil, i 8, i 0, i 1, i 0, i 0, .snil, i 8, i 0, i 1, i 0, i 1, .snil, i 8, i 0, i 1, i 0, i 0, .snil, i 8, i 0, i 1, i 0, i 1, .snil, i 8, i 0, i 1, i 0, i 0, .snil, i 8, i 0, i 1, i 0, i 1, .snil, i 8, i 0, i 1, i 0, i 0, .snil, i 8, i 0, i 1, i 0, i 1, .snil, i 8, i 0, i 1, i 0, i 0, .snil, i 8, i 0, i 1, i 0, i 1, .snil, i 8, i 0, i 1, i 0, i 0, .snil, i 8, i 0, i 1, i 0, i 1, .snil, i 8, i 0, i 1, i 0, i 0, .snil, i 8, i 0, i 1, i 0, i 1, .snil], 44, 6, none⟩),
(40, ⟨[o 48 0 1, o 52 0 1, o 107 0 1, o 98 0 1, o 100 0 1, i 5], 150, 0, none⟩),
(46, ⟨[i 0, i 1], 3, 1, none⟩),
(48, ⟨[o 46 0 2], 42, 1, none⟩),
(52, ⟨[i 2], 3, 1, none⟩),
(98, ⟨[i 1], 3, 1, none⟩),
(100, ⟨[i 0], 3, 1, none⟩),
(105, ⟨[i 3, i 4], 3, 1, none⟩),
(107, ⟨[o 105 0 2], 42, 1, none⟩),
(183, ⟨[o 193 0 5], 157, 0, none⟩),
(193, ⟨[i 0, i 1, i 2, i 3, i 4], 3, 1, none⟩),
(194, ⟨[.snil, .snil, .snil, .snil, .snil], 162, 0, none⟩),
(195, ⟨[o 246 0 1], 99, 0, none⟩),
(196, ⟨[], 0, 0, some (.map [] 0)⟩),
(197, ⟨[], 0, 0, some (.map [] 1)⟩),
(198, ⟨[.snil, o 574 0 0, .map 197, i 1], 161, 0, none⟩),
(199, ⟨[.ptr 5 0, .ptr 40 0, .ptr 183 0, o 238 0 5, o 241 0 5, o 244 0 5, f 194 0 5, .ptr 195 0, .map 196, .ptr 198 0], 105, 0, none⟩),
e 200 99,
e 203 99,
e 206 99,
(209, ⟨[o 572 0 1], 99, 0, none⟩),
e 215 99,
e 218 99,
e 221 99,
e 224 99,
e 227 99,
e 230 99,
e 233 99,
e 236 99,
(238, ⟨[.ptr 200 0, .ptr 209 0, .ptr 218 0, .ptr 227 0, .ptr 236 0], 96, 1, none⟩),
e 239 99,
(241, ⟨[.ptr 203 0, .ptr 699 0, .ptr 221 0, .ptr 230 0, .ptr 239 0], 96, 1, none⟩),
e 242 99,
(244, ⟨[.ptr 206 0, .ptr 215 0, .ptr 224 0, .ptr 233 0, .ptr 242 0], 96, 1, none⟩),
(246, ⟨[.int .u64 (.ofNat 1)], 229, 1, none⟩),
(572, ⟨[.int .u64 (.ofNat 1)], 229, 1, none⟩),
(574, ⟨[i 0], 3, 1, none⟩),
(698, ⟨[.int .u64 (.ofNat 1)], 229, 1, none⟩),
(699, ⟨[o 698 0 1], 99, 0, none⟩)]
private noncomputable def m0 : MM := ⟨[56], l0, 40, [⟨56, 0, [.v (.c (.ptr 5 0))], .v (.c (.nili))⟩]⟩
private theorem m0_k : H0.tbl m0 = true := by kernel_rfl
private noncomputable def h1 : HK := H0.memo m0 m0_k
private noncomputable def m1 : MM := ⟨[91], [(3, ⟨[o 39 0 16, i 3, i 0, i 0, i 0], 41, 0, none⟩),
(4, ⟨[i 0, o 9 0 2, f 3 0 1], 38, 0, none⟩),
(5, ⟨[f 7 0 1, f 0 0 1, .snil, .snil, f 4 0 1, i 0], 34, 0, none⟩)], 89, [⟨91, 0, [.v (.c (.ptr 5 0)), .v (.c (i 0))], .tup [.agg [i 0, i 0, i 0], .c (.bool true)]⟩,
⟨91, 1, [.v (.c (.ptr 5 0)), .v (.c (i 1))], .tup [.agg [i 0, i 0, i 1], .c (.bool true)]⟩,
⟨91, 2, [.v (.c (.ptr 5 0)), .v (.c (i 2))], .tup [.agg [i 0, i 0, i 2], .c (.bool true)]⟩,
⟨91, 3, [.v (.c (.ptr 5 0)), .v (.c (i 3))], .tup [.agg [i 0, i 0, i 3], .c (.bool true)]⟩,
⟨91, 4, [.v (.c (.ptr 5 0)), .v (.c (i 4))], .tup [.agg [i 0, i 0, i 4], .c (.bool true)]⟩,
⟨91, 5, [.v (.c (.ptr 5 0)), .v (.c (i 5))], .tup [.agg [i 0, i 0, i 5], .c (.bool true)]⟩,
⟨91, 6, [.v (.c (.ptr 5 0)), .v (.c (i 6))], .tup [.agg [i 0, i 0, i 6], .c (.bool true)]⟩,
⟨91, 7, [.v (.c (.ptr 5 0)), .v (.c (i 7))], .tup [.agg [i 0, i 0, i 7], .c (.bool true)]⟩,
⟨91, 8, [.v (.c (.ptr 5 0)), .v (.c (i 8))], .tup [.agg [i 0, i 0, i 8], .c (.bool true)]⟩,
⟨91, 9, [.v (.c (.ptr 5 0)), .v (.c (i 9))], .tup [.agg [i 0, i 0, i 9], .c (.bool true)]⟩,
⟨91, 10, [.v (.c (.ptr 5 0)), .v (.c (i 10))], .tup [.agg [i 0, i 0, i 10], .c (.bool true)]⟩,
⟨91, 11, [.v (.c (.ptr 5 0)), .v (.c (i 11))], .tup [.agg [i 0, i 0, i 11], .c (.bool true)]⟩,
⟨91, 12, [.v (.c (.ptr 5 0)), .v (.c (i 12))], .tup [.agg [i 0, i 0, i 12], .c (.bool true)]⟩,
⟨91, 13, [.v (.c (.ptr 5 0)), .v (.c (i 13))], .tup [.agg [i 0, i 0, i 13], .c (.bool true)]⟩,
⟨91, 14, [.v (.c (.ptr 5 0)), .v (.c (i 14))], .tup [.agg [i 0, i 0, i 14], .c (.bool true)]⟩,
⟨91, 15, [.v (.c (.ptr 5 0)), .v (.c (i 15))], .tup [.agg [i 0, i 0, i 15], .c (.bool true)]⟩,
⟨91, 16, [.v (.c (.ptr 5 0)), .v (.c (i 16))], .tup [.agg [i 0, i 0, i 16], .c (.bool true)]⟩]⟩
private theorem m1_k : h1.tbl m1 = true := by kernel_rfl
private noncomputable def h2 : HK := h1.memo m1 m1_k
private noncomputable def s1 : RE := ⟨35, [.v (.c (.ptr 5 0))], 40, .v (.c (.ptr 40 0)), [(40, ⟨[o 48 0 1, o 52 0 1, o 107 0 1, o 98 0 1, o 100 0 1, i 5], 150, 0, none⟩),
(46, ⟨[i 0, i 1], 3, 1, none⟩),
(48, ⟨[o 46 0 2], 42, 1, none⟩),
(52, ⟨[i 2], 3, 1, none⟩),
(98, ⟨[i 1], 3, 1, none⟩),
(100, ⟨[i 0], 3, 1, none⟩),
(105, ⟨[i 3, i 4], 3, 1, none⟩),
(107, ⟨[o 105 0 2], 42, 1, none⟩)], 183⟩
private theorem s1_k : h2.srp l0 s1 = true := by kernel_rfl
private noncomputable def h3 : HK := h2.srep _ s1 s1_k
private noncomputable def s2 : RE := ⟨9, [.v (.c (.ptr 5 0)), .v (.c (.snil))], 40, .v (.c (.ptr 199 0)), l1, 700⟩
private theorem s2_k : h3.rep l0 s2 = true := by kernel_rfl
private noncomputable def h4 : HK := h3.repl _ s2 s2_k
private noncomputable def s3 : RE := ⟨43, [.v (.c (.ptr 5 0)), .v (.c (.ptr 199 0))], 702, .v (.c (.ptr 702 0)), l2, 1212⟩
private theorem s3_k : h4.srp l3 s3 = true := by kernel_rfl
private noncomputable def h5 : HK := h4.srep _ s3 s3_k
private noncomputable def s4 : RE := ⟨11, [.v (.c (.ptr 5 0)), .v (.c (.ptr 199 0)), .v (.c (i 0))], 1744, .v (.c (o 2019 0 2)), [(2019, ⟨[i 1, i 0, i 1, i 1, i 0, i 0, i 0, i 0, i 0, i 0, i 0, i 0, i 0, i 0, i 0, i 0, i 0, i 0, i 0, i 0, i 0, i 0, i 0, i 0, i 0, i 0, i 0, i 0, i 0, i 0, i 0, i 0], 48, 2, none⟩)], 2305⟩
private theorem s4_k : h5.srp l3 s4 = true := by kernel_rfl
private noncomputable def h6 : HK := h5.srep _ s4 s4_k
theorem MemoryStores_14_0_run : isBool true (runW h6.K 3 [ai (Int.ofNat 14), ai (Int.ofNat 0)] s0) = true := by kernel_rfl
theorem MemoryStores_14_0_law {args : Array Value} (ha : VAs (fun _ => none) [ai (Int.ofNat 14), ai (Int.ofNat 0)] args.toList) (w : World) (hT : Tab w) :
    Calls Tryz.prog 3 args w fun e w' => Below w.heap.size w w' ∧ e = .returned (.bool true) := h6.law MemoryStores_14_0_run ha w hT
theorem MemoryStores_14_1_run : isBool true (runW h6.K 3 [ai (Int.ofNat 14), ai (Int.ofNat 1)] s0) = true := by kernel_rfl
theorem MemoryStores_14_1_law {args : Array Value} (ha : VAs (fun _ => none) [ai (Int.ofNat 14), ai (Int.ofNat 1)] args.toList) (w : World) (hT : Tab w) :
    Calls Tryz.prog 3 args w fun e w' => Below w.heap.size w w' ∧ e = .returned (.bool true) := h6.law MemoryStores_14_1_run ha w hT
theorem MemoryStores_14_2_run : isBool true (runW h6.K 3 [ai (Int.ofNat 14), ai (Int.ofNat 2)] s0) = true := by kernel_rfl
theorem MemoryStores_14_2_law {args : Array Value} (ha : VAs (fun _ => none) [ai (Int.ofNat 14), ai (Int.ofNat 2)] args.toList) (w : World) (hT : Tab w) :
    Calls Tryz.prog 3 args w fun e w' => Below w.heap.size w w' ∧ e = .returned (.bool true) := h6.law MemoryStores_14_2_run ha w hT
theorem MemoryStores_14_3_run : isBool true (runW h6.K 3 [ai (Int.ofNat 14), ai (Int.ofNat 3)] s0) = true := by kernel_rfl
theorem MemoryStores_14_3_law {args : Array Value} (ha : VAs (fun _ => none) [ai (Int.ofNat 14), ai (Int.ofNat 3)] args.toList) (w : World) (hT : Tab w) :
    Calls Tryz.prog 3 args w fun e w' => Below w.heap.size w w' ∧ e = .returned (.bool true) := h6.law MemoryStores_14_3_run ha w hT
theorem MemoryStores_14_4_run : isBool true (runW h6.K 3 [ai (Int.ofNat 14), ai (Int.ofNat 4)] s0) = true := by kernel_rfl
theorem MemoryStores_14_4_law {args : Array Value} (ha : VAs (fun _ => none) [ai (Int.ofNat 14), ai (Int.ofNat 4)] args.toList) (w : World) (hT : Tab w) :
    Calls Tryz.prog 3 args w fun e w' => Below w.heap.size w w' ∧ e = .returned (.bool true) := h6.law MemoryStores_14_4_run ha w hT
theorem MemoryStores_14_5_run : isBool true (runW h6.K 3 [ai (Int.ofNat 14), ai (Int.ofNat 5)] s0) = true := by kernel_rfl
theorem MemoryStores_14_5_law {args : Array Value} (ha : VAs (fun _ => none) [ai (Int.ofNat 14), ai (Int.ofNat 5)] args.toList) (w : World) (hT : Tab w) :
    Calls Tryz.prog 3 args w fun e w' => Below w.heap.size w w' ∧ e = .returned (.bool true) := h6.law MemoryStores_14_5_run ha w hT
theorem MemoryStores_14_6_run : isBool true (runW h6.K 3 [ai (Int.ofNat 14), ai (Int.ofNat 6)] s0) = true := by kernel_rfl
theorem MemoryStores_14_6_law {args : Array Value} (ha : VAs (fun _ => none) [ai (Int.ofNat 14), ai (Int.ofNat 6)] args.toList) (w : World) (hT : Tab w) :
    Calls Tryz.prog 3 args w fun e w' => Below w.heap.size w w' ∧ e = .returned (.bool true) := h6.law MemoryStores_14_6_run ha w hT
theorem MemoryStores_14_7_run : isBool true (runW h6.K 3 [ai (Int.ofNat 14), ai (Int.ofNat 7)] s0) = true := by kernel_rfl
theorem MemoryStores_14_7_law {args : Array Value} (ha : VAs (fun _ => none) [ai (Int.ofNat 14), ai (Int.ofNat 7)] args.toList) (w : World) (hT : Tab w) :
    Calls Tryz.prog 3 args w fun e w' => Below w.heap.size w w' ∧ e = .returned (.bool true) := h6.law MemoryStores_14_7_run ha w hT
theorem MemoryStores_14_8_run : isBool true (runW h6.K 3 [ai (Int.ofNat 14), ai (Int.ofNat 8)] s0) = true := by kernel_rfl
theorem MemoryStores_14_8_law {args : Array Value} (ha : VAs (fun _ => none) [ai (Int.ofNat 14), ai (Int.ofNat 8)] args.toList) (w : World) (hT : Tab w) :
    Calls Tryz.prog 3 args w fun e w' => Below w.heap.size w w' ∧ e = .returned (.bool true) := h6.law MemoryStores_14_8_run ha w hT
theorem MemoryStores_14_9_run : isBool true (runW h6.K 3 [ai (Int.ofNat 14), ai (Int.ofNat 9)] s0) = true := by kernel_rfl
theorem MemoryStores_14_9_law {args : Array Value} (ha : VAs (fun _ => none) [ai (Int.ofNat 14), ai (Int.ofNat 9)] args.toList) (w : World) (hT : Tab w) :
    Calls Tryz.prog 3 args w fun e w' => Below w.heap.size w w' ∧ e = .returned (.bool true) := h6.law MemoryStores_14_9_run ha w hT
theorem MemoryStores_14_10_run : isBool true (runW h6.K 3 [ai (Int.ofNat 14), ai (Int.ofNat 10)] s0) = true := by kernel_rfl
theorem MemoryStores_14_10_law {args : Array Value} (ha : VAs (fun _ => none) [ai (Int.ofNat 14), ai (Int.ofNat 10)] args.toList) (w : World) (hT : Tab w) :
    Calls Tryz.prog 3 args w fun e w' => Below w.heap.size w w' ∧ e = .returned (.bool true) := h6.law MemoryStores_14_10_run ha w hT
theorem MemoryStores_14_11_run : isBool true (runW h6.K 3 [ai (Int.ofNat 14), ai (Int.ofNat 11)] s0) = true := by kernel_rfl
theorem MemoryStores_14_11_law {args : Array Value} (ha : VAs (fun _ => none) [ai (Int.ofNat 14), ai (Int.ofNat 11)] args.toList) (w : World) (hT : Tab w) :
    Calls Tryz.prog 3 args w fun e w' => Below w.heap.size w w' ∧ e = .returned (.bool true) := h6.law MemoryStores_14_11_run ha w hT
theorem MemoryStores_14_12_run : isBool true (runW h6.K 3 [ai (Int.ofNat 14), ai (Int.ofNat 12)] s0) = true := by kernel_rfl
theorem MemoryStores_14_12_law {args : Array Value} (ha : VAs (fun _ => none) [ai (Int.ofNat 14), ai (Int.ofNat 12)] args.toList) (w : World) (hT : Tab w) :
    Calls Tryz.prog 3 args w fun e w' => Below w.heap.size w w' ∧ e = .returned (.bool true) := h6.law MemoryStores_14_12_run ha w hT
theorem MemoryStores_14_13_run : isBool true (runW h6.K 3 [ai (Int.ofNat 14), ai (Int.ofNat 13)] s0) = true := by kernel_rfl
theorem MemoryStores_14_13_law {args : Array Value} (ha : VAs (fun _ => none) [ai (Int.ofNat 14), ai (Int.ofNat 13)] args.toList) (w : World) (hT : Tab w) :
    Calls Tryz.prog 3 args w fun e w' => Below w.heap.size w w' ∧ e = .returned (.bool true) := h6.law MemoryStores_14_13_run ha w hT
theorem MemoryStores_14_14_run : isBool true (runW h6.K 3 [ai (Int.ofNat 14), ai (Int.ofNat 14)] s0) = true := by kernel_rfl
theorem MemoryStores_14_14_law {args : Array Value} (ha : VAs (fun _ => none) [ai (Int.ofNat 14), ai (Int.ofNat 14)] args.toList) (w : World) (hT : Tab w) :
    Calls Tryz.prog 3 args w fun e w' => Below w.heap.size w w' ∧ e = .returned (.bool true) := h6.law MemoryStores_14_14_run ha w hT
theorem MemoryStores_14_neg (j : Nat) : isBool true (runW hkT 3 [ai (Int.ofNat 14), ai (Int.negSucc j)] s0) = true := by kernel_rfl
theorem MemoryStores_14_big (j : Nat) : isBool true (runW hkT 3 [ai (Int.ofNat 14), ai (Int.ofNat (j + 15))] s0) = true := by kernel_rfl
theorem MemoryStores_14_all (w : World) (hT : Tab w) (m : Int) : Calls Tryz.prog 3 #[.int .i64 (Int.ofNat 14), .int .i64 m] w fun e w' => Below w.heap.size w w' ∧ e = .returned (.bool true) := by
  rcases m with m | k
  · by_cases h : 15 ≤ m
    · obtain ⟨k, rfl⟩ : ∃ k, m = k + 15 := ⟨m - 15, by omega⟩
      exact lawT (MemoryStores_14_big k) (by exact ⟨rfl, rfl, trivial⟩) w hT
    · rcases (by omega : m = 0 ∨ m = 1 ∨ m = 2 ∨ m = 3 ∨ m = 4 ∨ m = 5 ∨ m = 6 ∨ m = 7 ∨ m = 8 ∨ m = 9 ∨ m = 10 ∨ m = 11 ∨ m = 12 ∨ m = 13 ∨ m = 14) with rfl | rfl | rfl | rfl | rfl | rfl | rfl | rfl | rfl | rfl | rfl | rfl | rfl | rfl | rfl
      · exact MemoryStores_14_0_law (by exact ⟨rfl, rfl, trivial⟩) w hT
      · exact MemoryStores_14_1_law (by exact ⟨rfl, rfl, trivial⟩) w hT
      · exact MemoryStores_14_2_law (by exact ⟨rfl, rfl, trivial⟩) w hT
      · exact MemoryStores_14_3_law (by exact ⟨rfl, rfl, trivial⟩) w hT
      · exact MemoryStores_14_4_law (by exact ⟨rfl, rfl, trivial⟩) w hT
      · exact MemoryStores_14_5_law (by exact ⟨rfl, rfl, trivial⟩) w hT
      · exact MemoryStores_14_6_law (by exact ⟨rfl, rfl, trivial⟩) w hT
      · exact MemoryStores_14_7_law (by exact ⟨rfl, rfl, trivial⟩) w hT
      · exact MemoryStores_14_8_law (by exact ⟨rfl, rfl, trivial⟩) w hT
      · exact MemoryStores_14_9_law (by exact ⟨rfl, rfl, trivial⟩) w hT
      · exact MemoryStores_14_10_law (by exact ⟨rfl, rfl, trivial⟩) w hT
      · exact MemoryStores_14_11_law (by exact ⟨rfl, rfl, trivial⟩) w hT
      · exact MemoryStores_14_12_law (by exact ⟨rfl, rfl, trivial⟩) w hT
      · exact MemoryStores_14_13_law (by exact ⟨rfl, rfl, trivial⟩) w hT
      · exact MemoryStores_14_14_law (by exact ⟨rfl, rfl, trivial⟩) w hT
  · exact lawT (MemoryStores_14_neg k) (by exact ⟨rfl, rfl, trivial⟩) w hT
end Go.Proofs.YtjbnkokcbhfdgabGreatDoor
