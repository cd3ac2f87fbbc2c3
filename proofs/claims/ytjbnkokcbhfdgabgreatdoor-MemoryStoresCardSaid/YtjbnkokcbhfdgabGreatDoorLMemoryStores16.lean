/- Tables of calls, and a run that uses them. -/
import Derived.Test.YtjbnkokcbhfdgabGreatDoorLn22
namespace Go.Proofs.YtjbnkokcbhfdgabGreatDoor
open Go Go.RowKit Ev
set_option maxRecDepth 100000
set_option linter.unusedVariables false
private noncomputable abbrev i (n : Nat) : CV := .int .i64 (.ofNat n)
private noncomputable abbrev o (b a n : Nat) : CV := .slice b a n (.opn 0)
private noncomputable abbrev f (b a n : Nat) : CV := .slice b a n (.fix n)
private noncomputable abbrev e (k t : Nat) : Nat × BK := (k, ⟨[.snil], t, 0, none⟩)
private noncomputable abbrev l0 : Bls := [(0, ⟨[.snil, i 0, i 0], 89, 0, none⟩),
(3, ⟨[o 43 0 18, i 3, i 0, i 0, i 0], 41, 0, none⟩),
(4, ⟨[i 0, o 9 0 2, f 3 0 1], 38, 0, none⟩),
(5, ⟨[f 7 0 1, f 0 0 1, .snil, .snil, f 4 0 1, i 0], 34, 0, none⟩),
(6, ⟨[i 0, i 0, i 0, i 0], 26, 0, none⟩),
(7, ⟨[f 6 0 2], 27, 0, none⟩),
(9, ⟨[i 0, i 0, i 1, i 0], 26, 2, none⟩),
(43, ⟨[i 1, i 0, i 0, i 0, i 7, .snil, i 5, i 1, i 0, i 0, i 0, .snil, i 8, i 0, i 1, i 0, i 0, .snil, i 8, i 0, i 1, i 0, i 1, .snil, i 8, i 0, i 1, i 0, i 0, .snil, i 8, i 0, i 1, i 0, i 1, .snil, i 8, i 0, i 1, i 0, i 0, .snil, i 8, i 0, i 1, i 0, i 1, .snil, i 8, i 0, i 1, i 0, i 0, .snil, i 8, i 0, i 1, i 0, i 1, .snil, i 8, i 0, i 1, i 0, i 0, .snil, i 8, i 0, i 1, i 0, i 1, .snil, i 8, i 0, i 1, i 0, i 0, .snil, i 8, i 0, i 1, i 0, i 1, .snil, i 8, i 0, i 1, i 0, i 0, .snil, i 8, i 0, i 1, i 0, i 1, .snil, i 8, i 0, i 1, i 0, i 0, .snil, i 8, i 0, i 1, i 0, i 1, .snil], 44, 6, none⟩)]
private noncomputable abbrev l1 : Bls := [(44, ⟨[o 52 0 1, o 56 0 1, o 115 0 1, o 106 0 1, o 108 0 1, i 5], 150, 0, none⟩),
(50, ⟨[i 0, i 1], 3, 1, none⟩),
(52, ⟨[o 50 0 2], 42, 1, none⟩),
(56, ⟨[i 2], 3, 1, none⟩),
(106, ⟨[i 1], 3, 1, none⟩),
(108, ⟨[i 0], 3, 1, none⟩),
(113, ⟨[i 3, i 4], 3, 1, none⟩),
(115, ⟨[o 113 0 2], 42, 1, none⟩),
(201, ⟨[o 211 0 5], 157, 0, none⟩),
(211, ⟨[i 0, i 1, i 2, i 3, i 4], 3, 1, none⟩),
(212, ⟨[.snil, .snil, .snil, .snil, .snil], 162, 0, none⟩),
(213, ⟨[o 264 0 1], 99, 0, none⟩),
(214, ⟨[], 0, 0, some (.map [] 0)⟩),
(215, ⟨[], 0, 0, some (.map [] 1)⟩),
(216, ⟨[.snil, o 626 0 0, .map 215, i 1], 161, 0, none⟩),
(217, ⟨[.ptr 5 0, .ptr 44 0, .ptr 201 0, o 256 0 5, o 259 0 5, o 262 0 5, f 212 0 5, .ptr 213 0, .map 214, .ptr 216 0], 105, 0, none⟩),
e 218 99,
e 221 99,
e 224 99,
(227, ⟨[o 624 0 1], 99, 0, none⟩),
e 233 99,
e 236 99,
e 239 99,
e 242 99,
e 245 99,
e 248 99,
e 251 99,
e 254 99,
(256, ⟨[.ptr 218 0, .ptr 227 0, .ptr 236 0, .ptr 245 0, .ptr 254 0], 96, 1, none⟩),
e 257 99,
(259, ⟨[.ptr 221 0, .ptr 765 0, .ptr 239 0, .ptr 248 0, .ptr 257 0], 96, 1, none⟩),
e 260 99,
(262, ⟨[.ptr 224 0, .ptr 233 0, .ptr 242 0, .ptr 251 0, .ptr 260 0], 96, 1, none⟩),
(264, ⟨[.int .u64 (.ofNat 1)], 229, 1, none⟩),
(624, ⟨[.int .u64 (.ofNat 1)], 229, 1, none⟩),
(626, ⟨[i 0], 3, 1, none⟩),
(764, ⟨[.int .u64 (.ofNat 1)], 229, 1, none⟩),
(765, ⟨[o 764 0 1], 99, 0, none⟩)]
private noncomputable abbrev l2 : Bls := [(768, ⟨[.ptr 5 0, .ptr 217 0, o 1339 0 19, o 886 0 1], 178, 0, none⟩),
(771, ⟨[i 0, f 773 0 19], 258, 0, none⟩),
(773, ⟨[.snil, o 779 0 1, o 785 0 1, o 791 0 1, o 797 0 1, o 803 0 1, o 809 0 1, o 815 0 1, o 821 0 1, o 827 0 1, o 833 0 1, o 839 0 1, o 845 0 1, o 851 0 1, o 857 0 1, o 863 0 1, o 869 0 1, o 875 0 1, o 881 0 1], 42, 0, none⟩),
(779, ⟨[i 0], 3, 1, none⟩),
(785, ⟨[i 1], 3, 1, none⟩),
(791, ⟨[i 2], 3, 1, none⟩),
(797, ⟨[i 3], 3, 1, none⟩),
(803, ⟨[i 4], 3, 1, none⟩),
(809, ⟨[i 5], 3, 1, none⟩),
(815, ⟨[i 6], 3, 1, none⟩),
(821, ⟨[i 7], 3, 1, none⟩),
(827, ⟨[i 8], 3, 1, none⟩),
(833, ⟨[i 9], 3, 1, none⟩),
(839, ⟨[i 10], 3, 1, none⟩),
(845, ⟨[i 11], 3, 1, none⟩),
(851, ⟨[i 12], 3, 1, none⟩),
(857, ⟨[i 13], 3, 1, none⟩),
(863, ⟨[i 14], 3, 1, none⟩),
(869, ⟨[i 15], 3, 1, none⟩),
(875, ⟨[i 16], 3, 1, none⟩),
(881, ⟨[i 17], 3, 1, none⟩),
(886, ⟨[.ptr 771 0], 179, 1, none⟩),
(926, ⟨[], 0, 0, some (.map [] 0)⟩),
(939, ⟨[], 0, 0, some (.map [(0, .agg [i 1, i 0], .c (.bool true)), (1, .agg [i 1, i 1], .c (.bool true))] 2)⟩),
(961, ⟨[], 0, 0, some (.map [(0, .agg [i 1, i 0], .c (.bool true))] 1)⟩),
(984, ⟨[], 0, 0, some (.map [(0, .agg [i 1, i 1], .c (.bool true))] 1)⟩),
(1007, ⟨[], 0, 0, some (.map [(0, .agg [i 1, i 0], .c (.bool true))] 1)⟩),
(1030, ⟨[], 0, 0, some (.map [(0, .agg [i 1, i 1], .c (.bool true))] 1)⟩),
(1053, ⟨[], 0, 0, some (.map [(0, .agg [i 1, i 0], .c (.bool true))] 1)⟩),
(1076, ⟨[], 0, 0, some (.map [(0, .agg [i 1, i 1], .c (.bool true))] 1)⟩),
(1099, ⟨[], 0, 0, some (.map [(0, .agg [i 1, i 0], .c (.bool true))] 1)⟩),
(1122, ⟨[], 0, 0, some (.map [(0, .agg [i 1, i 1], .c (.bool true))] 1)⟩),
(1145, ⟨[], 0, 0, some (.map [(0, .agg [i 1, i 0], .c (.bool true))] 1)⟩),
(1168, ⟨[], 0, 0, some (.map [(0, .agg [i 1, i 1], .c (.bool true))] 1)⟩),
(1191, ⟨[], 0, 0, some (.map [(0, .agg [i 1, i 0], .c (.bool true))] 1)⟩),
(1214, ⟨[], 0, 0, some (.map [(0, .agg [i 1, i 1], .c (.bool true))] 1)⟩),
(1237, ⟨[], 0, 0, some (.map [(0, .agg [i 1, i 0], .c (.bool true))] 1)⟩),
(1260, ⟨[], 0, 0, some (.map [(0, .agg [i 1, i 1], .c (.bool true))] 1)⟩),
(1283, ⟨[], 0, 0, some (.map [(0, .agg [i 1, i 0], .c (.bool true))] 1)⟩),
(1306, ⟨[], 0, 0, some (.map [(0, .agg [i 1, i 1], .c (.bool true))] 1)⟩),
(1329, ⟨[], 0, 0, some (.map [] 0)⟩),
(1339, ⟨[.map 926, .map 939, .map 961, .map 984, .map 1007, .map 1030, .map 1053, .map 1076, .map 1099, .map 1122, .map 1145, .map 1168, .map 1191, .map 1214, .map 1237, .map 1260, .map 1283, .map 1306, .map 1329], 181, 1, none⟩)]
private noncomputable abbrev l3 : Bls := [(0, ⟨[.snil, i 0, i 0], 89, 0, none⟩),
(3, ⟨[o 43 0 18, i 3, i 0, i 0, i 0], 41, 0, none⟩),
(4, ⟨[i 0, o 9 0 2, f 3 0 1], 38, 0, none⟩),
(5, ⟨[f 7 0 1, f 0 0 1, .snil, .snil, f 4 0 1, i 0], 34, 0, none⟩),
(6, ⟨[i 0, i 0, i 0, i 0], 26, 0, none⟩),
(7, ⟨[f 6 0 2], 27, 0, none⟩),
(9, ⟨[i 0, i 0, i 1, i 0], 26, 2, none⟩),
(43, ⟨[i 1, i 0, i 0, i 0, i 7, .snil, i 5, i 1, i 0, i 0, i 0, .snil, i 8, i 0, i 1, i 0, i 0, .snil, i 8, i 0, i 1, i 0, i 1, .snil, i 8, i 0, i 1, i 0, i 0, .snil, i 8, i 0, i 1, i 0, i 1, .snil, i 8, i 0, i 1, i 0, i 0, .snil, i 8, i 0, i 1, i 0, i 1, .snil, i 8, i 0, i 1, i 0, i 0, .snil, i 8, i 0, i 1, i 0, i 1, .snil, i 8, i 0, i 1, i 0, i 0, .snil, i 8, i 0, i 1, i 0, i 1, .snil, i 8, i 0, i 1, i 0, i 0, .snil, i 8, i 0, i 1, i 0, i 1, .snil, i 8, i 0, i 1, i 0, i 0, .snil, i 8, i 0, i 1, i 0, i 1, .snil, i 8, i 0, i 1, i 0, i 0, .snil, i 8, i 0, i 1, i 0, i 1, .snil], 44, 6, none⟩),
(44, ⟨[o 52 0 1, o 56 0 1, o 115 0 1, o 106 0 1, o 108 0 1, i 5], 150, 0, none⟩),
(50, ⟨[i 0, i 1], 3, 1, none⟩),
(52, ⟨[o 50 0 2], 42, 1, none⟩),
(56, ⟨[i 2], 3, 1, none⟩),
(106, ⟨[i 1], 3, 1, none⟩),
(108, ⟨[i 0], 3, 1, none⟩),
(113, ⟨[i 3, i 4], 3, 1, none⟩),
(115, ⟨[o 113 0 2], 42, 1, none⟩),
(201, ⟨[o 211 0 5], 157, 0, none⟩),
(211, ⟨[i 0, i 1, i 2, i 3, i 4], 3, 1, none⟩),
(212, ⟨[.snil, .snil, .snil, .snil, .snil], 162, 0, none⟩),
(213, ⟨[o 264 0 1], 99, 0, none⟩),
(214, ⟨[], 0, 0, some (.map [] 0)⟩),
(215, ⟨[], 0, 0, some (.map [] 1)⟩),
(216, ⟨[.snil, o 626 0 0, .map 215, i 1], 161, 0, none⟩),
(217, ⟨[.ptr 5 0, .ptr 44 0, .ptr 201 0, o 256 0 5, o 259 0 5, o 262 0 5, f 212 0 5, .ptr 213 0, .map 214, .ptr 216 0], 105, 0, none⟩),
e 218 99,
e 221 99,
e 224 99,
(227, ⟨[o 624 0 1], 99, 0, none⟩),
e 233 99,
e 236 99,
e 239 99,
e 242 99,
e 245 99,
e 248 99,
e 251 99,
e 254 99,
(256, ⟨[.ptr 218 0, .ptr 227 0, .ptr 236 0, .ptr 245 0, .ptr 254 0], 96, 1, none⟩),
e 257 99,
(259, ⟨[.ptr 221 0, .ptr 765 0, .ptr 239 0, .ptr 248 0, .ptr 257 0], 96, 1, none⟩),
e 260 99,
(262, ⟨[.ptr 224 0, .ptr 233 0, .ptr 242 0, .ptr 251 0, .ptr 260 0], 96, 1, none⟩),
(264, ⟨[.int .u64 (.ofNat 1)], 229, 1, none⟩),
(624, ⟨[.int .u64 (.ofNat 1)], 229, 1, none⟩),
(626, ⟨[i 0], 3, 1, none⟩),
(764, ⟨[.int .u64 (.ofNat 1)], 229, 1, none⟩),
(765, ⟨[o 764 0 1], 99, 0, none⟩)]
private noncomputable def m0 : MM := ⟨[56], l0, 44, [⟨56, 0, [.v (.c (.ptr 5 0))], .v (.c (.nili))⟩]⟩
private theorem m0_k : H0.tbl m0 = true := by kernel_rfl
private noncomputable def h1 : HK := H0.memo m0 m0_k
private noncomputable def m1 : MM := ⟨[91], [(3, ⟨[o 43 0 18, i 3, i 0, i 0, i 0], 41, 0, none⟩),
(4, ⟨[i 0, o 9 0 2, f 3 0 1], 38, 0, none⟩),
(5, ⟨[f 7 0 1, f 0 0 1, .snil, .snil, f 4 0 1, i 0], 34, 0, none⟩)], 97, [⟨91, 0, [.v (.c (.ptr 5 0)), .v (.c (i 0))], .tup [.agg [i 0, i 0, i 0], .c (.bool true)]⟩,
⟨91, 1, [.v (.c (.ptr 5 0)), .v (.c (i 1))], .tup [.agg [i 0, i 0, i 1], .c (.bool true)]⟩,
⟨91, 2, [.v (.c (.ptr 5 0)), .v (.c (i 2))], .tup [.agg [i 0, i 0, i 2], .c (.bool true)]⟩,
⟨91, 3, [.v (.c (.ptr 5 0)), .v (.c (i 3))], .tup [.agg [i 0, i 0, i 3], .c (.bool true)]⟩,
⟨91, 4, [.v (.c (.ptr 5 0)), .v (.c (i 4))], .tup [.agg [i 0, i 0, i 4], .c (.bool true)]⟩,
⟨91, 5, [.v (.c (.ptr 5 0)), .v (.c (i 5))], .tup [.agg [i 0, i 0, i 5], .c (.bool true)]⟩,
⟨91, 6, [.v (.c (.ptr 5 0)), .v (.c (i 6))], .tup [.agg [i 0, i 0, i 6], .c (.bool true)]⟩,
⟨91, 7, [.v (.c (.ptr 5 0)), .v (.c (i 7))], .tup [.agg [i 0, i 0, i 7], .c (.bool true)]⟩,
⟨91, 8, [.v (.c (.ptr 5 0)), .v (.c (i 8))], .tup [.agg [i 0, i 0, i 8], .c (.bool true)]⟩,
⟨91, 9, [.v (.c (.ptr 5 0)), .v (.c (i 9))], .tup [.agg [i 0, i 0, i 9], .c (.bool true)]⟩,
⟨91, 10, [.v (.c (.ptr 5 0)), .v (.c (i 10))], .tup [.agg [i 0, i 0, i 10], .c (.bool true)]⟩,
⟨91, 11, [.v (.c (.ptr 5 0)), .v (.c (i 11))], .tup [.agg [i 0, i 0, i 11], .c (.bool true)]⟩,
⟨91, 12, [.v (.c (.ptr 5 0)), .v (.c (i 12))], .tup [.agg [i 0, i 0, i 12], .c (.bool true)]⟩,
⟨91, 13, [.v (.c (.ptr 5 0)), .v (.c (i 13))], .tup [.agg [i 0, i 0, i 13], .c (.bool true)]⟩,
⟨91, 14, [.v (.c (.ptr 5 0)), .v (.c (i 14))], .tup [.agg [i 0, i 0, i 14], .c (.bool true)]⟩,
⟨91, 15, [.v (.c (.ptr 5 0)), .v (.c (i 15))], .tup [.agg [i 0, i 0, i 15], .c (.bool true)]⟩,
⟨91, 16, [.v (.c (.ptr 5 0)), .v (.c (i 16))], .tup [.agg [i 0, i 0, i 16], .c (.bool true)]⟩,
⟨91, 17, [.v (.c (.ptr 5 0)), .v (.c (i 17))], .tup [.agg [i 0, i 0, i 17], .c (.bool true)]⟩,
⟨91, 18, [.v (.c (.ptr 5 0)), .v (.c (i 18))], .tup [.agg [i 0, i 0, i 18], .c (.bool true)]⟩]⟩
private theorem m1_k : h1.tbl m1 = true := by kernel_rfl
private noncomputable def h2 : HK := h1.memo m1 m1_k
private noncomputable def s1 : RE := ⟨35, [.v (.c (.ptr 5 0))], 44, .v (.c (.ptr 44 0)), [(44, ⟨[o 52 0 1, o 56 0 1, o 115 0 1, o 106 0 1, o 108 0 1, i 5], 150, 0, none⟩),
(50, ⟨[i 0, i 1], 3, 1, none⟩),
(52, ⟨[o 50 0 2], 42, 1, none⟩),
(56, ⟨[i 2], 3, 1, none⟩),
(106, ⟨[i 1], 3, 1, none⟩),
(108, ⟨[i 0], 3, 1, none⟩),
(113, ⟨[i 3, i 4], 3, 1, none⟩),
(115, ⟨[o 113 0 2], 42, 1, none⟩)], 201⟩
private theorem s1_k : h2.srp l0 s1 = true := by kernel_rfl
private noncomputable def h3 : HK := h2.srep _ s1 s1_k
private noncomputable def s2 : RE := ⟨9, [.v (.c (.ptr 5 0)), .v (.c (.snil))], 44, .v (.c (.ptr 217 0)), l1, 766⟩
private theorem s2_k : h3.rep l0 s2 = true := by kernel_rfl
private noncomputable def h4 : HK := h3.repl _ s2 s2_k
private noncomputable def s3 : RE := ⟨43, [.v (.c (.ptr 5 0)), .v (.c (.ptr 217 0))], 768, .v (.c (.ptr 768 0)), l2, 1340⟩
private theorem s3_k : h4.srp l3 s3 = true := by kernel_rfl
private noncomputable def h5 : HK := h4.srep _ s3 s3_k
private noncomputable def s4 : RE := ⟨11, [.v (.c (.ptr 5 0)), .v (.c (.ptr 217 0)), .v (.c (i 0))], 1934, .v (.c (o 2243 0 2)), [(2243, ⟨[i 1, i 0, i 1, i 1, i 0, i 0, i 0, i 0, i 0, i 0, i 0, i 0, i 0, i 0, i 0, i 0, i 0, i 0, i 0, i 0, i 0, i 0, i 0, i 0, i 0, i 0, i 0, i 0, i 0, i 0, i 0, i 0, i 0, i 0, i 0, i 0], 48, 2, none⟩)], 2579⟩
private theorem s4_k : h5.srp l3 s4 = true := by kernel_rfl
private noncomputable def h6 : HK := h5.srep _ s4 s4_k
theorem MemoryStores_16_0_run : isBool true (runW h6.K 3 [ai (Int.ofNat 16), ai (Int.ofNat 0)] s0) = true := by kernel_rfl
theorem MemoryStores_16_0_law {args : Array Value} (ha : VAs (fun _ => none) [ai (Int.ofNat 16), ai (Int.ofNat 0)] args.toList) (w : World) (hT : Tab w) :
    Calls Tryz.prog 3 args w fun e w' => Below w.heap.size w w' ∧ e = .returned (.bool true) := h6.law MemoryStores_16_0_run ha w hT
theorem MemoryStores_16_1_run : isBool true (runW h6.K 3 [ai (Int.ofNat 16), ai (Int.ofNat 1)] s0) = true := by kernel_rfl
theorem MemoryStores_16_1_law {args : Array Value} (ha : VAs (fun _ => none) [ai (Int.ofNat 16), ai (Int.ofNat 1)] args.toList) (w : World) (hT : Tab w) :
    Calls Tryz.prog 3 args w fun e w' => Below w.heap.size w w' ∧ e = .returned (.bool true) := h6.law MemoryStores_16_1_run ha w hT
theorem MemoryStores_16_2_run : isBool true (runW h6.K 3 [ai (Int.ofNat 16), ai (Int.ofNat 2)] s0) = true := by kernel_rfl
theorem MemoryStores_16_2_law {args : Array Value} (ha : VAs (fun _ => none) [ai (Int.ofNat 16), ai (Int.ofNat 2)] args.toList) (w : World) (hT : Tab w) :
    Calls Tryz.prog 3 args w fun e w' => Below w.heap.size w w' ∧ e = .returned (.bool true) := h6.law MemoryStores_16_2_run ha w hT
theorem MemoryStores_16_3_run : isBool true (runW h6.K 3 [ai (Int.ofNat 16), ai (Int.ofNat 3)] s0) = true := by kernel_rfl
theorem MemoryStores_16_3_law {args : Array Value} (ha : VAs (fun _ => none) [ai (Int.ofNat 16), ai (Int.ofNat 3)] args.toList) (w : World) (hT : Tab w) :
    Calls Tryz.prog 3 args w fun e w' => Below w.heap.size w w' ∧ e = .returned (.bool true) := h6.law MemoryStores_16_3_run ha w hT
theorem MemoryStores_16_4_run : isBool true (runW h6.K 3 [ai (Int.ofNat 16), ai (Int.ofNat 4)] s0) = true := by kernel_rfl
theorem MemoryStores_16_4_law {args : Array Value} (ha : VAs (fun _ => none) [ai (Int.ofNat 16), ai (Int.ofNat 4)] args.toList) (w : World) (hT : Tab w) :
    Calls Tryz.prog 3 args w fun e w' => Below w.heap.size w w' ∧ e = .returned (.bool true) := h6.law MemoryStores_16_4_run ha w hT
theorem MemoryStores_16_5_run : isBool true (runW h6.K 3 [ai (Int.ofNat 16), ai (Int.ofNat 5)] s0) = true := by kernel_rfl
theorem MemoryStores_16_5_law {args : Array Value} (ha : VAs (fun _ => none) [ai (Int.ofNat 16), ai (Int.ofNat 5)] args.toList) (w : World) (hT : Tab w) :
    Calls Tryz.prog 3 args w fun e w' => Below w.heap.size w w' ∧ e = .returned (.bool true) := h6.law MemoryStores_16_5_run ha w hT
theorem MemoryStores_16_6_run : isBool true (runW h6.K 3 [ai (Int.ofNat 16), ai (Int.ofNat 6)] s0) = true := by kernel_rfl
theorem MemoryStores_16_6_law {args : Array Value} (ha : VAs (fun _ => none) [ai (Int.ofNat 16), ai (Int.ofNat 6)] args.toList) (w : World) (hT : Tab w) :
    Calls Tryz.prog 3 args w fun e w' => Below w.heap.size w w' ∧ e = .returned (.bool true) := h6.law MemoryStores_16_6_run ha w hT
theorem MemoryStores_16_7_run : isBool true (runW h6.K 3 [ai (Int.ofNat 16), ai (Int.ofNat 7)] s0) = true := by kernel_rfl
theorem MemoryStores_16_7_law {args : Array Value} (ha : VAs (fun _ => none) [ai (Int.ofNat 16), ai (Int.ofNat 7)] args.toList) (w : World) (hT : Tab w) :
    Calls Tryz.prog 3 args w fun e w' => Below w.heap.size w w' ∧ e = .returned (.bool true) := h6.law MemoryStores_16_7_run ha w hT
theorem MemoryStores_16_8_run : isBool true (runW h6.K 3 [ai (Int.ofNat 16), ai (Int.ofNat 8)] s0) = true := by kernel_rfl
theorem MemoryStores_16_8_law {args : Array Value} (ha : VAs (fun _ => none) [ai (Int.ofNat 16), ai (Int.ofNat 8)] args.toList) (w : World) (hT : Tab w) :
    Calls Tryz.prog 3 args w fun e w' => Below w.heap.size w w' ∧ e = .returned (.bool true) := h6.law MemoryStores_16_8_run ha w hT
theorem MemoryStores_16_9_run : isBool true (runW h6.K 3 [ai (Int.ofNat 16), ai (Int.ofNat 9)] s0) = true := by kernel_rfl
theorem MemoryStores_16_9_law {args : Array Value} (ha : VAs (fun _ => none) [ai (Int.ofNat 16), ai (Int.ofNat 9)] args.toList) (w : World) (hT : Tab w) :
    Calls Tryz.prog 3 args w fun e w' => Below w.heap.size w w' ∧ e = .returned (.bool true) := h6.law MemoryStores_16_9_run ha w hT
theorem MemoryStores_16_10_run : isBool true (runW h6.K 3 [ai (Int.ofNat 16), ai (Int.ofNat 10)] s0) = true := by kernel_rfl
theorem MemoryStores_16_10_law {args : Array Value} (ha : VAs (fun _ => none) [ai (Int.ofNat 16), ai (Int.ofNat 10)] args.toList) (w : World) (hT : Tab w) :
    Calls Tryz.prog 3 args w fun e w' => Below w.heap.size w w' ∧ e = .returned (.bool true) := h6.law MemoryStores_16_10_run ha w hT
theorem MemoryStores_16_11_run : isBool true (runW h6.K 3 [ai (Int.ofNat 16), ai (Int.ofNat 11)] s0) = true := by kernel_rfl
theorem MemoryStores_16_11_law {args : Array Value} (ha : VAs (fun _ => none) [ai (Int.ofNat 16), ai (Int.ofNat 11)] args.toList) (w : World) (hT : Tab w) :
    Calls Tryz.prog 3 args w fun e w' => Below w.heap.size w w' ∧ e = .returned (.bool true) := h6.law MemoryStores_16_11_run ha w hT
theorem MemoryStores_16_12_run : isBool true (runW h6.K 3 [ai (Int.ofNat 16), ai (Int.ofNat 12)] s0) = true := by kernel_rfl
theorem MemoryStores_16_12_law {args : Array Value} (ha : VAs (fun _ => none) [ai (Int.ofNat 16), ai (Int.ofNat 12)] args.toList) (w : World) (hT : Tab w) :
    Calls Tryz.prog 3 args w fun e w' => Below w.heap.size w w' ∧ e = .returned (.bool true) := h6.law MemoryStores_16_12_run ha w hT
theorem MemoryStores_16_13_run : isBool true (runW h6.K 3 [ai (Int.ofNat 16), ai (Int.ofNat 13)] s0) = true := by kernel_rfl
theorem MemoryStores_16_13_law {args : Array Value} (ha : VAs (fun _ => none) [ai (Int.ofNat 16), ai (Int.ofNat 13)] args.toList) (w : World) (hT : Tab w) :
    Calls Tryz.prog 3 args w fun e w' => Below w.heap.size w w' ∧ e = .returned (.bool true) := h6.law MemoryStores_16_13_run ha w hT
theorem MemoryStores_16_14_run : isBool true (runW h6.K 3 [ai (Int.ofNat 16), ai (Int.ofNat 14)] s0) = true := by kernel_rfl
theorem MemoryStores_16_14_law {args : Array Value} (ha : VAs (fun _ => none) [ai (Int.ofNat 16), ai (Int.ofNat 14)] args.toList) (w : World) (hT : Tab w) :
    Calls Tryz.prog 3 args w fun e w' => Below w.heap.size w w' ∧ e = .returned (.bool true) := h6.law MemoryStores_16_14_run ha w hT
theorem MemoryStores_16_15_run : isBool true (runW h6.K 3 [ai (Int.ofNat 16), ai (Int.ofNat 15)] s0) = true := by kernel_rfl
theorem MemoryStores_16_15_law {args : Array Value} (ha : VAs (fun _ => none) [ai (Int.ofNat 16), ai (Int.ofNat 15)] args.toList) (w : World) (hT : Tab w) :
    Calls Tryz.prog 3 args w fun e w' => Below w.heap.size w w' ∧ e = .returned (.bool true) := h6.law MemoryStores_16_15_run ha w hT
theorem MemoryStores_16_16_run : isBool true (runW h6.K 3 [ai (Int.ofNat 16), ai (Int.ofNat 16)] s0) = true := by kernel_rfl
theorem MemoryStores_16_16_law {args : Array Value} (ha : VAs (fun _ => none) [ai (Int.ofNat 16), ai (Int.ofNat 16)] args.toList) (w : World) (hT : Tab w) :
    Calls Tryz.prog 3 args w fun e w' => Below w.heap.size w w' ∧ e = .returned (.bool true) := h6.law MemoryStores_16_16_run ha w hT
theorem MemoryStores_16_neg (j : Nat) : isBool true (runW hkT 3 [ai (Int.ofNat 16), ai (Int.negSucc j)] s0) = true := by kernel_rfl
theorem MemoryStores_16_big (j : Nat) : isBool true (runW hkT 3 [ai (Int.ofNat 16), ai (Int.ofNat (j + 17))] s0) = true := by kernel_rfl
theorem MemoryStores_16_all (w : World) (hT : Tab w) (m : Int) : Calls Tryz.prog 3 #[.int .i64 (Int.ofNat 16), .int .i64 m] w fun e w' => Below w.heap.size w w' ∧ e = .returned (.bool true) := by
  rcases m with m | k
  · by_cases h : 17 ≤ m
    · obtain ⟨k, rfl⟩ : ∃ k, m = k + 17 := ⟨m - 17, by omega⟩
      exact lawT (MemoryStores_16_big k) (by exact ⟨rfl, rfl, trivial⟩) w hT
    · rcases (by omega : m = 0 ∨ m = 1 ∨ m = 2 ∨ m = 3 ∨ m = 4 ∨ m = 5 ∨ m = 6 ∨ m = 7 ∨ m = 8 ∨ m = 9 ∨ m = 10 ∨ m = 11 ∨ m = 12 ∨ m = 13 ∨ m = 14 ∨ m = 15 ∨ m = 16) with rfl | rfl | rfl | rfl | rfl | rfl | rfl | rfl | rfl | rfl | rfl | rfl | rfl | rfl | rfl | rfl | rfl
      · exact MemoryStores_16_0_law (by exact ⟨rfl, rfl, trivial⟩) w hT
      · exact MemoryStores_16_1_law (by exact ⟨rfl, rfl, trivial⟩) w hT
      · exact MemoryStores_16_2_law (by exact ⟨rfl, rfl, trivial⟩) w hT
      · exact MemoryStores_16_3_law (by exact ⟨rfl, rfl, trivial⟩) w hT
      · exact MemoryStores_16_4_law (by exact ⟨rfl, rfl, trivial⟩) w hT
      · exact MemoryStores_16_5_law (by exact ⟨rfl, rfl, trivial⟩) w hT
      · exact MemoryStores_16_6_law (by exact ⟨rfl, rfl, trivial⟩) w hT
      · exact MemoryStores_16_7_law (by exact ⟨rfl, rfl, trivial⟩) w hT
      · exact MemoryStores_16_8_law (by exact ⟨rfl, rfl, trivial⟩) w hT
      · exact MemoryStores_16_9_law (by exact ⟨rfl, rfl, trivial⟩) w hT
      · exact MemoryStores_16_10_law (by exact ⟨rfl, rfl, trivial⟩) w hT
      · exact MemoryStores_16_11_law (by exact ⟨rfl, rfl, trivial⟩) w hT
      · exact MemoryStores_16_12_law (by exact ⟨rfl, rfl, trivial⟩) w hT
      · exact MemoryStores_16_13_law (by exact ⟨rfl, rfl, trivial⟩) w hT
      · exact MemoryStores_16_14_law (by exact ⟨rfl, rfl, trivial⟩) w hT
      · exact MemoryStores_16_15_law (by exact ⟨rfl, rfl, trivial⟩) w hT
      · exact MemoryStores_16_16_law (by exact ⟨rfl, rfl, trivial⟩) w hT
  · exact lawT (MemoryStores_16_neg k) (by exact ⟨rfl, rfl, trivial⟩) w hT
end Go.Proofs.YtjbnkokcbhfdgabGreatDoor
