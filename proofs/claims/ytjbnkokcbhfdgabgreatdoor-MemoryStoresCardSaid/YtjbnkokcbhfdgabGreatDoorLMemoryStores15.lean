/- Tables of calls, and a run that uses them. -/
import Derived.Test.YtjbnkokcbhfdgabGreatDoorLn22
namespace Go.Proofs.YtjbnkokcbhfdgabGreatDoor
open Go Go.RowKit Ev
set_option maxRecDepth 100000
set_option linter.unusedVariables false
private noncomputable abbrev i (n : Nat) : CV := .int .i64 (.ofNat n)
private noncomputable abbrev o (b a n : Nat) : CV := .slice b a n (.opn 0)
private noncomputable abbrev f (b a n : Nat) : CV := .slice b a n (.fix n)
private noncomputable abbrev e (k t : Nat) : Nat × BK := (k, ⟨[.snil], t, 0, none⟩)
private noncomputable abbrev l0 : Bls := [(0, ⟨[.snil, i 0, i 0], 89, 0, none⟩),
(3, ⟨[o 41 0 17, i 3, i 0, i 0, i 0], 41, 0, none⟩),
(4, ⟨[i 0, o 9 0 2, f 3 0 1], 38, 0, none⟩),
(5, ⟨[f 7 0 1, f 0 0 1, .snil, .snil, f 4 0 1, i 0], 34, 0, none⟩),
(6, ⟨[i 0, i 0, i 0, i 0], 26, 0, none⟩),
(7, ⟨[f 6 0 2], 27, 0, none⟩),
(9, ⟨[i 0, i 0, i 1, i 0], 26, 2, none⟩),
(41, ⟨[i 1, i 0, i 0, i 0, i 7, .snil, i 5, i 1, i 0, i 0, i 0, .snil, i 8, i 0, i 1, i 0, i 0, .snil, i 8, i 0, i 1, i 0, i 1, .snil, i 8, i 0, i 1, i 0, i 0, .snil, i 8, i 0, i 1, i 0, i 1, .snil, i 8, i 0, i 1, i 0, i 0, .snil, i 8, i 0, i 1, i 0, i 1, .snil, i 8, i 0, i 1, i 0, i 0, .snil, i 8, i 0, i 1, i 0, i 1, .snil, i 8, i 0, i 1, i 0, i 0, .snil, i 8, i 0, i 1, i 0, i 1, .snil, i 8, i 0, i 1, i 0, i 0, .snil, i 8, i 0, i 1, i 0, i 1, .snil, i 8, i 0, i 1, i 0, i 0, .snil, i 8, i 0, i 1, i 0, i 1, .snil, i 8, i 0, i 1, i 0, i 0, .snil], 44, 6, none⟩)]
private noncomputable abbrev l1 : Bls := [(42, ⟨[o 50 0 1, o 54 0 1, o 111 0 1, o 102 0 1, o 104 0 1, i 5], 150, 0, none⟩),
(48, ⟨[i 0, i 1], 3, 1, none⟩),
(50, ⟨[o 48 0 2], 42, 1, none⟩),
(54, ⟨[i 2], 3, 1, none⟩),
(102, ⟨[i 1], 3, 1, none⟩),
(104, ⟨[i 0], 3, 1, none⟩),
(109, ⟨[i 3, i 4], 3, 1, none⟩),
(111, ⟨[o 109 0 2], 42, 1, none⟩),
(192, ⟨[o 202 0 5], 157, 0, none⟩),
(202, ⟨[i 0, i 1, i 2, i 3, i 4], 3, 1, none⟩),
(203, ⟨[.snil, .snil, .snil, .snil, .snil], 162, 0, none⟩),
(204, ⟨[o 255 0 1], 99, 0, none⟩),
(205, ⟨[], 0, 0, some (.map [] 0)⟩),
(206, ⟨[], 0, 0, some (.map [] 1)⟩),
(207, ⟨[.snil, o 600 0 0, .map 206, i 1], 161, 0, none⟩),
(208, ⟨[.ptr 5 0, .ptr 42 0, .ptr 192 0, o 247 0 5, o 250 0 5, o 253 0 5, f 203 0 5, .ptr 204 0, .map 205, .ptr 207 0], 105, 0, none⟩),
e 209 99,
e 212 99,
e 215 99,
(218, ⟨[o 598 0 1], 99, 0, none⟩),
e 224 99,
e 227 99,
e 230 99,
e 233 99,
e 236 99,
e 239 99,
e 242 99,
e 245 99,
(247, ⟨[.ptr 209 0, .ptr 218 0, .ptr 227 0, .ptr 236 0, .ptr 245 0], 96, 1, none⟩),
e 248 99,
(250, ⟨[.ptr 212 0, .ptr 732 0, .ptr 230 0, .ptr 239 0, .ptr 248 0], 96, 1, none⟩),
e 251 99,
(253, ⟨[.ptr 215 0, .ptr 224 0, .ptr 233 0, .ptr 242 0, .ptr 251 0], 96, 1, none⟩),
(255, ⟨[.int .u64 (.ofNat 1)], 229, 1, none⟩),
(598, ⟨[.int .u64 (.ofNat 1)], 229, 1, none⟩),
(600, ⟨[i 0], 3, 1, none⟩),
(731, ⟨[.int .u64 (.ofNat 1)], 229, 1, none⟩),
(732, ⟨[o 731 0 1], 99, 0, none⟩)]
private noncomputable abbrev l2 : Bls := [(735, ⟨[.ptr 5 0, .ptr 208 0, o 1275 0 18, o 847 0 1], 178, 0, none⟩),
(738, ⟨[i 0, f 740 0 18], 258, 0, none⟩),
(740, ⟨[.snil, o 746 0 1, o 752 0 1, o 758 0 1, o 764 0 1, o 770 0 1, o 776 0 1, o 782 0 1, o 788 0 1, o 794 0 1, o 800 0 1, o 806 0 1, o 812 0 1, o 818 0 1, o 824 0 1, o 830 0 1, o 836 0 1, o 842 0 1], 42, 0, none⟩),
(746, ⟨[i 0], 3, 1, none⟩),
(752, ⟨[i 1], 3, 1, none⟩),
(758, ⟨[i 2], 3, 1, none⟩),
(764, ⟨[i 3], 3, 1, none⟩),
(770, ⟨[i 4], 3, 1, none⟩),
(776, ⟨[i 5], 3, 1, none⟩),
(782, ⟨[i 6], 3, 1, none⟩),
(788, ⟨[i 7], 3, 1, none⟩),
(794, ⟨[i 8], 3, 1, none⟩),
(800, ⟨[i 9], 3, 1, none⟩),
(806, ⟨[i 10], 3, 1, none⟩),
(812, ⟨[i 11], 3, 1, none⟩),
(818, ⟨[i 12], 3, 1, none⟩),
(824, ⟨[i 13], 3, 1, none⟩),
(830, ⟨[i 14], 3, 1, none⟩),
(836, ⟨[i 15], 3, 1, none⟩),
(842, ⟨[i 16], 3, 1, none⟩),
(847, ⟨[.ptr 738 0], 179, 1, none⟩),
(885, ⟨[], 0, 0, some (.map [] 0)⟩),
(898, ⟨[], 0, 0, some (.map [(0, .agg [i 1, i 0], .c (.bool true)), (1, .agg [i 1, i 1], .c (.bool true))] 2)⟩),
(920, ⟨[], 0, 0, some (.map [(0, .agg [i 1, i 0], .c (.bool true))] 1)⟩),
(943, ⟨[], 0, 0, some (.map [(0, .agg [i 1, i 1], .c (.bool true))] 1)⟩),
(966, ⟨[], 0, 0, some (.map [(0, .agg [i 1, i 0], .c (.bool true))] 1)⟩),
(989, ⟨[], 0, 0, some (.map [(0, .agg [i 1, i 1], .c (.bool true))] 1)⟩),
(1012, ⟨[], 0, 0, some (.map [(0, .agg [i 1, i 0], .c (.bool true))] 1)⟩),
(1035, ⟨[], 0, 0, some (.map [(0, .agg [i 1, i 1], .c (.bool true))] 1)⟩),
(1058, ⟨[], 0, 0, some (.map [(0, .agg [i 1, i 0], .c (.bool true))] 1)⟩),
(1081, ⟨[], 0, 0, some (.map [(0, .agg [i 1, i 1], .c (.bool true))] 1)⟩),
(1104, ⟨[], 0, 0, some (.map [(0, .agg [i 1, i 0], .c (.bool true))] 1)⟩),
(1127, ⟨[], 0, 0, some (.map [(0, .agg [i 1, i 1], .c (.bool true))] 1)⟩),
(1150, ⟨[], 0, 0, some (.map [(0, .agg [i 1, i 0], .c (.bool true))] 1)⟩),
(1173, ⟨[], 0, 0, some (.map [(0, .agg [i 1, i 1], .c (.bool true))] 1)⟩),
(1196, ⟨[], 0, 0, some (.map [(0, .agg [i 1, i 0], .c (.bool true))] 1)⟩),
(1219, ⟨[], 0, 0, some (.map [(0, .agg [i 1, i 1], .c (.bool true))] 1)⟩),
(1242, ⟨[], 0, 0, some (.map [(0, .agg [i 1, i 0], .c (.bool true))] 1)⟩),
(1265, ⟨[], 0, 0, some (.map [] 0)⟩),
(1275, ⟨[.map 885, .map 898, .map 920, .map 943, .map 966, .map 989, .map 1012, .map 1035, .map 1058, .map 1081, .map 1104, .map 1127, .map 1150, .map 1173, .map 1196, .map 1219, .map 1242, .map 1265], 181, 1, none⟩)]
private noncomputable abbrev l3 : Bls := [(0, ⟨[.snil, i 0, i 0], 89, 0, none⟩),
(3, ⟨[o 41 0 17, i 3, i 0, i 0, i 0], 41, 0, none⟩),
(4, ⟨[i 0, o 9 0 2, f 3 0 1], 38, 0, none⟩),
(5, ⟨[f 7 0 1, f 0 0 1, .snil, .snil, f 4 0 1, i 0], 34, 0, none⟩),
(6, ⟨[i 0, i 0, i 0, i 0], 26, 0, none⟩),
(7, ⟨[f 6 0 2], 27, 0, none⟩),
(9, ⟨[i 0, i 0, i 1, i 0], 26, 2, none⟩),
(41, ⟨[i 1, i 0, i 0, i 0, i 7, .snil, i 5, i 1, i 0, i 0, i 0, .snil, i 8, i 0, i 1, i 0, i 0, .snil, i 8, i 0, i 1, i 0, i 1, .snil, i 8, i 0, i 1, i 0, i 0, .snil, i 8, i 0, i 1, i 0, i 1, .snil, i 8, i 0, i 1, i 0, i 0, .snil, i 8, i 0, i 1, i 0, i 1, .snil, i 8, i 0, i 1, i 0, i 0, .snil, i 8, i 0, i 1, i 0, i 1, .snil, i 8, i 0, i 1, i 0, i 0, .snil, i 8, i 0, i 1, i 0, i 1, .snil, i 8, i 0, i 1, i 0, i 0, .snil, i 8, i 0, i 1, i 0, i 1, .snil, i 8, i 0, i 1, i 0, i 0, .snil, i 8, i 0, i 1, i 0, i 1, .snil, i 8, i 0, i 1, i 0, i 0, .snil], 44, 6, none⟩),
(42, ⟨[o 50 0 1, o 54 0 1, o 111 0 1, o 102 0 1, o 104 0 1, i 5], 150, 0, none⟩),
(48, ⟨[i 0, i 1], 3, 1, none⟩),
(50, ⟨[o 48 0 2], 42, 1, none⟩),
(54, ⟨[i 2], 3, 1, none⟩),
(102, ⟨[i 1], 3, 1, none⟩),
(104, ⟨[i 0], 3, 1, none⟩),
(109, ⟨[i 3, i 4], 3, 1, none⟩),
(111, ⟨[o 109 0 2], 42, 1, none⟩),
(192, ⟨[o 202 0 5], 157, 0, none⟩),
(202, ⟨[i 0, i 1, i 2, i 3, i 4], 3, 1, none⟩),
(203, ⟨[.snil, .snil, .snil, .snil, .snil], 162, 0, none⟩),
(204, ⟨[o 255 0 1], 99, 0, none⟩),
(205, ⟨[], 0, 0, some (.map [] 0)⟩),
(206, ⟨[], 0, 0, some (.map [] 1)⟩),
(207, ⟨[.snil, o 600 0 0, .map 206, i 1], 161, 0, none⟩),
(208, ⟨[.ptr 5 0, .ptr 42 0, .ptr 192 0, o 247 0 5, o 250 0 5, o 253 0 5, f 203 0 5, .ptr 204 0, .map 205, .ptr 207 0], 105, 0, none⟩),
e 209 99,
e 212 99,
e 215 99,
(218, ⟨[o 598 0 1], 99, 0, none⟩),
e 224 99,
e 227 99,
e 230 99,
e 233 99,
e 236 99,
e 239 99,
e 242 99,
e 245 99,
(247, ⟨[.ptr 209 0, .ptr 218 0, .ptr 227 0, .ptr 236 0, .ptr 245 0], 96, 1, none⟩),
e 248 99,
(250, ⟨[.ptr 212 0, .ptr 732 0, .ptr 230 0, .ptr 239 0, .ptr 248 0], 96, 1, none⟩),
e 251 99,
(253, ⟨[.ptr 215 0, .ptr 224 0, .ptr 233 0, .ptr 242 0, .ptr 251 0], 96, 1, none⟩),
(255, ⟨[.int .u64 (.ofNat 1)], 229, 1, none⟩),
(598, ⟨[.int .u64 (.ofNat 1)], 229, 1, none⟩),
(600, ⟨[i 0], 3, 1, none⟩),
(731, ⟨[.int .u64 (.ofNat 1)], 229, 1, none⟩),
(732, ⟨[o 731 0 1], 99, 0, none⟩)]
private noncomputable def m0 : MM := ⟨[56], l0, 42, [⟨56, 0, [.v (.c (.ptr 5 0))], .v (.c (.nili))⟩]⟩
private theorem m0_k : H0.tbl m0 = true := by kernel_rfl
private noncomputable def h1 : HK := H0.memo m0 m0_k
private noncomputable def m1 : MM := ⟨[91], [(3, ⟨[o 41 0 17, i 3, i 0, i 0, i 0], 41, 0, none⟩),
(4, ⟨[i 0, o 9 0 2, f 3 0 1], 38, 0, none⟩),
(5, ⟨[f 7 0 1, f 0 0 1, .snil, .snil, f 4 0 1, i 0], 34, 0, none⟩)], 93, [⟨91, 0, [.v (.c (.ptr 5 0)), .v (.c (i 0))], .tup [.agg [i 0, i 0, i 0], .c (.bool true)]⟩,
⟨91, 1, [.v (.c (.ptr 5 0)), .v (.c (i 1))], .tup [.agg [i 0, i 0, i 1], .c (.bool true)]⟩,
⟨91, 2, [.v (.c (.ptr 5 0)), .v (.c (i 2))], .tup [.agg [i 0, i 0, i 2], .c (.bool true)]⟩,
⟨91, 3, [.v (.c (.ptr 5 0)), .v (.c (i 3))], .tup [.agg [i 0, i 0, i 3], .c (.bool true)]⟩,
⟨91, 4, [.v (.c (.ptr 5 0)), .v (.c (i 4))], .tup [.agg [i 0, i 0, i 4], .c (.bool true)]⟩,
⟨91, 5, [.v (.c (.ptr 5 0)), .v (.c (i 5))], .tup [.agg [i 0, i 0, i 5], .c (.bool true)]⟩,
⟨91, 6, [.v (.c (.ptr 5 0)), .v (.c (i 6))], .tup [.agg [i 0, i 0, i 6], .c (.bool true)]⟩,
⟨91, 7, [.v (.c (.ptr 5 0)), .v (.c (i 7))], .tup [.agg [i 0, i 0, i 7], .c (.bool true)]⟩,
⟨91, 8, [.v (.c (.ptr 5 0)), .v (.c (i 8))], .tup [.agg [i 0, i 0, i 8], .c (.bool true)]⟩,
⟨91, 9, [.v (.c (.ptr 5 0)), .v (.c (i 9))], .tup [.agg [i 0, i 0, i 9], .c (.bool true)]⟩,
⟨91, 10, [.v (.c (.ptr 5 0)), .v (.c (i 10))], .tup [.agg [i 0, i 0, i 10], .c (.bool true)]⟩,
⟨91, 11, [.v (.c (.ptr 5 0)), .v (.c (i 11))], .tup [.agg [i 0, i 0, i 11], .c (.bool true)]⟩,
⟨91, 12, [.v (.c (.ptr 5 0)), .v (.c (i 12))], .tup [.agg [i 0, i 0, i 12], .c (.bool true)]⟩,
⟨91, 13, [.v (.c (.ptr 5 0)), .v (.c (i 13))], .tup [.agg [i 0, i 0, i 13], .c (.bool true)]⟩,
⟨91, 14, [.v (.c (.ptr 5 0)), .v (.c (i 14))], .tup [.agg [i 0, i 0, i 14], .c (.bool true)]⟩,
⟨91, 15, [.v (.c (.ptr 5 0)), .v (.c (i 15))], .tup [.agg [i 0, i 0, i 15], .c (.bool true)]⟩,
⟨91, 16, [.v (.c (.ptr 5 0)), .v (.c (i 16))], .tup [.agg [i 0, i 0, i 16], .c (.bool true)]⟩,
⟨91, 17, [.v (.c (.ptr 5 0)), .v (.c (i 17))], .tup [.agg [i 0, i 0, i 17], .c (.bool true)]⟩]⟩
private theorem m1_k : h1.tbl m1 = true := by kernel_rfl
private noncomputable def h2 : HK := h1.memo m1 m1_k
private noncomputable def s1 : RE := ⟨35, [.v (.c (.ptr 5 0))], 42, .v (.c (.ptr 42 0)), [(42, ⟨[o 50 0 1, o 54 0 1, o 111 0 1, o 102 0 1, o 104 0 1, i 5], 150, 0, none⟩),
(48, ⟨[i 0, i 1], 3, 1, none⟩),
(50, ⟨[o 48 0 2], 42, 1, none⟩),
(54, ⟨[i 2], 3, 1, none⟩),
(102, ⟨[i 1], 3, 1, none⟩),
(104, ⟨[i 0], 3, 1, none⟩),
(109, ⟨[i 3, i 4], 3, 1, none⟩),
(111, ⟨[o 109 0 2], 42, 1, none⟩)], 192⟩
private theorem s1_k : h2.srp l0 s1 = true := by kernel_rfl
private noncomputable def h3 : HK := h2.srep _ s1 s1_k
private noncomputable def s2 : RE := ⟨9, [.v (.c (.ptr 5 0)), .v (.c (.snil))], 42, .v (.c (.ptr 208 0)), l1, 733⟩
private theorem s2_k : h3.rep l0 s2 = true := by kernel_rfl
private noncomputable def h4 : HK := h3.repl _ s2 s2_k
private noncomputable def s3 : RE := ⟨43, [.v (.c (.ptr 5 0)), .v (.c (.ptr 208 0))], 735, .v (.c (.ptr 735 0)), l2, 1276⟩
private theorem s3_k : h4.srp l3 s3 = true := by kernel_rfl
private noncomputable def h5 : HK := h4.srep _ s3 s3_k
private noncomputable def s4 : RE := ⟨11, [.v (.c (.ptr 5 0)), .v (.c (.ptr 208 0)), .v (.c (i 0))], 1839, .v (.c (o 2131 0 2)), [(2131, ⟨[i 1, i 0, i 1, i 1, i 0, i 0, i 0, i 0, i 0, i 0, i 0, i 0, i 0, i 0, i 0, i 0, i 0, i 0, i 0, i 0, i 0, i 0, i 0, i 0, i 0, i 0, i 0, i 0, i 0, i 0, i 0, i 0, i 0, i 0], 48, 2, none⟩)], 2448⟩
private theorem s4_k : h5.srp l3 s4 = true := by kernel_rfl
private noncomputable def h6 : HK := h5.srep _ s4 s4_k
theorem MemoryStores_15_0_run : isBool true (runW h6.K 3 [ai (Int.ofNat 15), ai (Int.ofNat 0)] s0) = true := by kernel_rfl
theorem MemoryStores_15_0_law {args : Array Value} (ha : VAs (fun _ => none) [ai (Int.ofNat 15), ai (Int.ofNat 0)] args.toList) (w : World) (hT : Tab w) :
    Calls Tryz.prog 3 args w fun e w' => Below w.heap.size w w' ∧ e = .returned (.bool true) := h6.law MemoryStores_15_0_run ha w hT
theorem MemoryStores_15_1_run : isBool true (runW h6.K 3 [ai (Int.ofNat 15), ai (Int.ofNat 1)] s0) = true := by kernel_rfl
theorem MemoryStores_15_1_law {args : Array Value} (ha : VAs (fun _ => none) [ai (Int.ofNat 15), ai (Int.ofNat 1)] args.toList) (w : World) (hT : Tab w) :
    Calls Tryz.prog 3 args w fun e w' => Below w.heap.size w w' ∧ e = .returned (.bool true) := h6.law MemoryStores_15_1_run ha w hT
theorem MemoryStores_15_2_run : isBool true (runW h6.K 3 [ai (Int.ofNat 15), ai (Int.ofNat 2)] s0) = true := by kernel_rfl
theorem MemoryStores_15_2_law {args : Array Value} (ha : VAs (fun _ => none) [ai (Int.ofNat 15), ai (Int.ofNat 2)] args.toList) (w : World) (hT : Tab w) :
    Calls Tryz.prog 3 args w fun e w' => Below w.heap.size w w' ∧ e = .returned (.bool true) := h6.law MemoryStores_15_2_run ha w hT
theorem MemoryStores_15_3_run : isBool true (runW h6.K 3 [ai (Int.ofNat 15), ai (Int.ofNat 3)] s0) = true := by kernel_rfl
theorem MemoryStores_15_3_law {args : Array Value} (ha : VAs (fun _ => none) [ai (Int.ofNat 15), ai (Int.ofNat 3)] args.toList) (w : World) (hT : Tab w) :
    Calls Tryz.prog 3 args w fun e w' => Below w.heap.size w w' ∧ e = .returned (.bool true) := h6.law MemoryStores_15_3_run ha w hT
theorem MemoryStores_15_4_run : isBool true (runW h6.K 3 [ai (Int.ofNat 15), ai (Int.ofNat 4)] s0) = true := by kernel_rfl
theorem MemoryStores_15_4_law {args : Array Value} (ha : VAs (fun _ => none) [ai (Int.ofNat 15), ai (Int.ofNat 4)] args.toList) (w : World) (hT : Tab w) :
    Calls Tryz.prog 3 args w fun e w' => Below w.heap.size w w' ∧ e = .returned (.bool true) := h6.law MemoryStores_15_4_run ha w hT
theorem MemoryStores_15_5_run : isBool true (runW h6.K 3 [ai (Int.ofNat 15), ai (Int.ofNat 5)] s0) = true := by kernel_rfl
theorem MemoryStores_15_5_law {args : Array Value} (ha : VAs (fun _ => none) [ai (Int.ofNat 15), ai (Int.ofNat 5)] args.toList) (w : World) (hT : Tab w) :
    Calls Tryz.prog 3 args w fun e w' => Below w.heap.size w w' ∧ e = .returned (.bool true) := h6.law MemoryStores_15_5_run ha w hT
theorem MemoryStores_15_6_run : isBool true (runW h6.K 3 [ai (Int.ofNat 15), ai (Int.ofNat 6)] s0) = true := by kernel_rfl
theorem MemoryStores_15_6_law {args : Array Value} (ha : VAs (fun _ => none) [ai (Int.ofNat 15), ai (Int.ofNat 6)] args.toList) (w : World) (hT : Tab w) :
    Calls Tryz.prog 3 args w fun e w' => Below w.heap.size w w' ∧ e = .returned (.bool true) := h6.law MemoryStores_15_6_run ha w hT
theorem MemoryStores_15_7_run : isBool true (runW h6.K 3 [ai (Int.ofNat 15), ai (Int.ofNat 7)] s0) = true := by kernel_rfl
theorem MemoryStores_15_7_law {args : Array Value} (ha : VAs (fun _ => none) [ai (Int.ofNat 15), ai (Int.ofNat 7)] args.toList) (w : World) (hT : Tab w) :
    Calls Tryz.prog 3 args w fun e w' => Below w.heap.size w w' ∧ e = .returned (.bool true) := h6.law MemoryStores_15_7_run ha w hT
theorem MemoryStores_15_8_run : isBool true (runW h6.K 3 [ai (Int.ofNat 15), ai (Int.ofNat 8)] s0) = true := by kernel_rfl
theorem MemoryStores_15_8_law {args : Array Value} (ha : VAs (fun _ => none) [ai (Int.ofNat 15), ai (Int.ofNat 8)] args.toList) (w : World) (hT : Tab w) :
    Calls Tryz.prog 3 args w fun e w' => Below w.heap.size w w' ∧ e = .returned (.bool true) := h6.law MemoryStores_15_8_run ha w hT
theorem MemoryStores_15_9_run : isBool true (runW h6.K 3 [ai (Int.ofNat 15), ai (Int.ofNat 9)] s0) = true := by kernel_rfl
theorem MemoryStores_15_9_law {args : Array Value} (ha : VAs (fun _ => none) [ai (Int.ofNat 15), ai (Int.ofNat 9)] args.toList) (w : World) (hT : Tab w) :
    Calls Tryz.prog 3 args w fun e w' => Below w.heap.size w w' ∧ e = .returned (.bool true) := h6.law MemoryStores_15_9_run ha w hT
theorem MemoryStores_15_10_run : isBool true (runW h6.K 3 [ai (Int.ofNat 15), ai (Int.ofNat 10)] s0) = true := by kernel_rfl
theorem MemoryStores_15_10_law {args : Array Value} (ha : VAs (fun _ => none) [ai (Int.ofNat 15), ai (Int.ofNat 10)] args.toList) (w : World) (hT : Tab w) :
    Calls Tryz.prog 3 args w fun e w' => Below w.heap.size w w' ∧ e = .returned (.bool true) := h6.law MemoryStores_15_10_run ha w hT
theorem MemoryStores_15_11_run : isBool true (runW h6.K 3 [ai (Int.ofNat 15), ai (Int.ofNat 11)] s0) = true := by kernel_rfl
theorem MemoryStores_15_11_law {args : Array Value} (ha : VAs (fun _ => none) [ai (Int.ofNat 15), ai (Int.ofNat 11)] args.toList) (w : World) (hT : Tab w) :
    Calls Tryz.prog 3 args w fun e w' => Below w.heap.size w w' ∧ e = .returned (.bool true) := h6.law MemoryStores_15_11_run ha w hT
theorem MemoryStores_15_12_run : isBool true (runW h6.K 3 [ai (Int.ofNat 15), ai (Int.ofNat 12)] s0) = true := by kernel_rfl
theorem MemoryStores_15_12_law {args : Array Value} (ha : VAs (fun _ => none) [ai (Int.ofNat 15), ai (Int.ofNat 12)] args.toList) (w : World) (hT : Tab w) :
    Calls Tryz.prog 3 args w fun e w' => Below w.heap.size w w' ∧ e = .returned (.bool true) := h6.law MemoryStores_15_12_run ha w hT
theorem MemoryStores_15_13_run : isBool true (runW h6.K 3 [ai (Int.ofNat 15), ai (Int.ofNat 13)] s0) = true := by kernel_rfl
theorem MemoryStores_15_13_law {args : Array Value} (ha : VAs (fun _ => none) [ai (Int.ofNat 15), ai (Int.ofNat 13)] args.toList) (w : World) (hT : Tab w) :
    Calls Tryz.prog 3 args w fun e w' => Below w.heap.size w w' ∧ e = .returned (.bool true) := h6.law MemoryStores_15_13_run ha w hT
theorem MemoryStores_15_14_run : isBool true (runW h6.K 3 [ai (Int.ofNat 15), ai (Int.ofNat 14)] s0) = true := by kernel_rfl
theorem MemoryStores_15_14_law {args : Array Value} (ha : VAs (fun _ => none) [ai (Int.ofNat 15), ai (Int.ofNat 14)] args.toList) (w : World) (hT : Tab w) :
    Calls Tryz.prog 3 args w fun e w' => Below w.heap.size w w' ∧ e = .returned (.bool true) := h6.law MemoryStores_15_14_run ha w hT
theorem MemoryStores_15_15_run : isBool true (runW h6.K 3 [ai (Int.ofNat 15), ai (Int.ofNat 15)] s0) = true := by kernel_rfl
theorem MemoryStores_15_15_law {args : Array Value} (ha : VAs (fun _ => none) [ai (Int.ofNat 15), ai (Int.ofNat 15)] args.toList) (w : World) (hT : Tab w) :
    Calls Tryz.prog 3 args w fun e w' => Below w.heap.size w w' ∧ e = .returned (.bool true) := h6.law MemoryStores_15_15_run ha w hT
theorem MemoryStores_15_neg (j : Nat) : isBool true (runW hkT 3 [ai (Int.ofNat 15), ai (Int.negSucc j)] s0) = true := by kernel_rfl
theorem MemoryStores_15_big (j : Nat) : isBool true (runW hkT 3 [ai (Int.ofNat 15), ai (Int.ofNat (j + 16))] s0) = true := by kernel_rfl
theorem MemoryStores_15_all (w : World) (hT : Tab w) (m : Int) : Calls Tryz.prog 3 #[.int .i64 (Int.ofNat 15), .int .i64 m] w fun e w' => Below w.heap.size w w' ∧ e = .returned (.bool true) := by
  rcases m with m | k
  · by_cases h : 16 ≤ m
    · obtain ⟨k, rfl⟩ : ∃ k, m = k + 16 := ⟨m - 16, by omega⟩
      exact lawT (MemoryStores_15_big k) (by exact ⟨rfl, rfl, trivial⟩) w hT
    · rcases (by omega : m = 0 ∨ m = 1 ∨ m = 2 ∨ m = 3 ∨ m = 4 ∨ m = 5 ∨ m = 6 ∨ m = 7 ∨ m = 8 ∨ m = 9 ∨ m = 10 ∨ m = 11 ∨ m = 12 ∨ m = 13 ∨ m = 14 ∨ m = 15) with rfl | rfl | rfl | rfl | rfl | rfl | rfl | rfl | rfl | rfl | rfl | rfl | rfl | rfl | rfl | rfl
      · exact MemoryStores_15_0_law (by exact ⟨rfl, rfl, trivial⟩) w hT
      · exact MemoryStores_15_1_law (by exact ⟨rfl, rfl, trivial⟩) w hT
      · exact MemoryStores_15_2_law (by exact ⟨rfl, rfl, trivial⟩) w hT
      · exact MemoryStores_15_3_law (by exact ⟨rfl, rfl, trivial⟩) w hT
      · exact MemoryStores_15_4_law (by exact ⟨rfl, rfl, trivial⟩) w hT
      · exact MemoryStores_15_5_law (by exact ⟨rfl, rfl, trivial⟩) w hT
      · exact MemoryStores_15_6_law (by exact ⟨rfl, rfl, trivial⟩) w hT
      · exact MemoryStores_15_7_law (by exact ⟨rfl, rfl, trivial⟩) w hT
      · exact MemoryStores_15_8_law (by exact ⟨rfl, rfl, trivial⟩) w hT
      · exact MemoryStores_15_9_law (by exact ⟨rfl, rfl, trivial⟩) w hT
      · exact MemoryStores_15_10_law (by exact ⟨rfl, rfl, trivial⟩) w hT
      · exact MemoryStores_15_11_law (by exact ⟨rfl, rfl, trivial⟩) w hT
      · exact MemoryStores_15_12_law (by exact ⟨rfl, rfl, trivial⟩) w hT
      · exact MemoryStores_15_13_law (by exact ⟨rfl, rfl, trivial⟩) w hT
      · exact MemoryStores_15_14_law (by exact ⟨rfl, rfl, trivial⟩) w hT
      · exact MemoryStores_15_15_law (by exact ⟨rfl, rfl, trivial⟩) w hT
  · exact lawT (MemoryStores_15_neg k) (by exact ⟨rfl, rfl, trivial⟩) w hT
end Go.Proofs.YtjbnkokcbhfdgabGreatDoor
