/- Tables of calls, and a run that uses them. -/
import Derived.Test.YtjbnkokcbhfdgabGreatDoorLn22
namespace Go.Proofs.YtjbnkokcbhfdgabGreatDoor
open Go Go.RowKit Ev
set_option maxRecDepth 100000
set_option linter.unusedVariables false
private noncomputable abbrev i (n : Nat) : CV := .int .i64 (.ofNat n)
private noncomputable abbrev o (b a n : Nat) : CV := .slice b a n (.opn 0)
private noncomputable abbrev f (b a n : Nat) : CV := .slice b a n (.fix n)
private noncomputable abbrev e (k t : Nat) : Nat × BK := (k, ⟨[.snil], t, 0, none⟩)
private noncomputable abbrev l0 : Bls := [(0, ⟨[.snil, i 0, i 0], 89, 0, none⟩),
(3, ⟨[o 45 0 19, i 3, i 0, i 0, i 0], 41, 0, none⟩),
(4, ⟨[i 0, o 9 0 2, f 3 0 1], 38, 0, none⟩),
(5, ⟨[f 7 0 1, f 0 0 1, .snil, .snil, f 4 0 1, i 0], 34, 0, none⟩),
(6, ⟨[i 0, i 0, i 0, i 0], 26, 0, none⟩),
(7, ⟨[f 6 0 2], 27, 0, none⟩),
(9, ⟨[i 0, i 0, i 1, i 0], 26, 2, none⟩),
(45, ⟨[i 1, i 0, i 0, i 0, i 7, .snil, i 5, i 1, i 0, i 0, i 0, .snil, i 8, i 0, i 1, i 0, i 0, .snil, i 8, i 0, i 1, i 0, i 1, .snil, i 8, i 0, i 1, i 0, i 0, .snil, i 8, i 0, i 1, i 0, i 1, .snil, i 8, i 0, i 1, i 0, i 0, .snil, i 8, i 0, i 1, i 0, i 1, .snil, i 8, i 0, i 1, i 0, i 0, .snil, i 8, i 0, i 1, i 0, i 1, .snil, i 8, i 0, i 1, i 0, i 0, .snil, i 8, i 0, i 1, i 0, i 1, .snil, i 8, i 0, i 1, i 0, i 0, .snil, i 8, i 0, i 1, i 0, i 1, .snil, i 8, i 0, i 1, i 0, i 0, .snil, i 8, i 0, i 1, i 0, i 1, .snil, i 8, i 0, i 1, i 0, i 0, .snil, i 8, i 0, i 1, i 0, i 1, .snil, i 8, i 0, i 1, i 0, i 0, .snil], 44, 6, none⟩)]
private noncomputable abbrev l1 : Bls := [(46, ⟨[o 54 0 1, o 58 0 1, o 119 0 1, o 110 0 1, o 112 0 1, i 5], 150, 0, none⟩),
(52, ⟨[i 0, i 1], 3, 1, none⟩),
(54, ⟨[o 52 0 2], 42, 1, none⟩),
(58, ⟨[i 2], 3, 1, none⟩),
(110, ⟨[i 1], 3, 1, none⟩),
(112, ⟨[i 0], 3, 1, none⟩),
(117, ⟨[i 3, i 4], 3, 1, none⟩),
(119, ⟨[o 117 0 2], 42, 1, none⟩),
(210, ⟨[o 220 0 5], 157, 0, none⟩),
(220, ⟨[i 0, i 1, i 2, i 3, i 4], 3, 1, none⟩),
(221, ⟨[.snil, .snil, .snil, .snil, .snil], 162, 0, none⟩),
(222, ⟨[o 273 0 1], 99, 0, none⟩),
(223, ⟨[], 0, 0, some (.map [] 0)⟩),
(224, ⟨[], 0, 0, some (.map [] 1)⟩),
(225, ⟨[.snil, o 652 0 0, .map 224, i 1], 161, 0, none⟩),
(226, ⟨[.ptr 5 0, .ptr 46 0, .ptr 210 0, o 265 0 5, o 268 0 5, o 271 0 5, f 221 0 5, .ptr 222 0, .map 223, .ptr 225 0], 105, 0, none⟩),
e 227 99,
e 230 99,
e 233 99,
(236, ⟨[o 650 0 1], 99, 0, none⟩),
e 242 99,
e 245 99,
e 248 99,
e 251 99,
e 254 99,
e 257 99,
e 260 99,
e 263 99,
(265, ⟨[.ptr 227 0, .ptr 236 0, .ptr 245 0, .ptr 254 0, .ptr 263 0], 96, 1, none⟩),
e 266 99,
(268, ⟨[.ptr 230 0, .ptr 798 0, .ptr 248 0, .ptr 257 0, .ptr 266 0], 96, 1, none⟩),
e 269 99,
(271, ⟨[.ptr 233 0, .ptr 242 0, .ptr 251 0, .ptr 260 0, .ptr 269 0], 96, 1, none⟩),
(273, ⟨[.int .u64 (.ofNat 1)], 229, 1, none⟩),
(650, ⟨[.int .u64 (.ofNat 1)], 229, 1, none⟩),
(652, ⟨[i 0], 3, 1, none⟩),
(797, ⟨[.int .u64 (.ofNat 1)], 229, 1, none⟩),
(798, ⟨[o 797 0 1], 99, 0, none⟩)]
private noncomputable abbrev l2 : Bls := [(801, ⟨[.ptr 5 0, .ptr 226 0, o 1403 0 20, o 925 0 1], 178, 0, none⟩),
(804, ⟨[i 0, f 806 0 20], 258, 0, none⟩),
(806, ⟨[.snil, o 812 0 1, o 818 0 1, o 824 0 1, o 830 0 1, o 836 0 1, o 842 0 1, o 848 0 1, o 854 0 1, o 860 0 1, o 866 0 1, o 872 0 1, o 878 0 1, o 884 0 1, o 890 0 1, o 896 0 1, o 902 0 1, o 908 0 1, o 914 0 1, o 920 0 1], 42, 0, none⟩),
(812, ⟨[i 0], 3, 1, none⟩),
(818, ⟨[i 1], 3, 1, none⟩),
(824, ⟨[i 2], 3, 1, none⟩),
(830, ⟨[i 3], 3, 1, none⟩),
(836, ⟨[i 4], 3, 1, none⟩),
(842, ⟨[i 5], 3, 1, none⟩),
(848, ⟨[i 6], 3, 1, none⟩),
(854, ⟨[i 7], 3, 1, none⟩),
(860, ⟨[i 8], 3, 1, none⟩),
(866, ⟨[i 9], 3, 1, none⟩),
(872, ⟨[i 10], 3, 1, none⟩),
(878, ⟨[i 11], 3, 1, none⟩),
(884, ⟨[i 12], 3, 1, none⟩),
(890, ⟨[i 13], 3, 1, none⟩),
(896, ⟨[i 14], 3, 1, none⟩),
(902, ⟨[i 15], 3, 1, none⟩),
(908, ⟨[i 16], 3, 1, none⟩),
(914, ⟨[i 17], 3, 1, none⟩),
(920, ⟨[i 18], 3, 1, none⟩),
(925, ⟨[.ptr 804 0], 179, 1, none⟩),
(967, ⟨[], 0, 0, some (.map [] 0)⟩),
(980, ⟨[], 0, 0, some (.map [(0, .agg [i 1, i 0], .c (.bool true)), (1, .agg [i 1, i 1], .c (.bool true))] 2)⟩),
(1002, ⟨[], 0, 0, some (.map [(0, .agg [i 1, i 0], .c (.bool true))] 1)⟩),
(1025, ⟨[], 0, 0, some (.map [(0, .agg [i 1, i 1], .c (.bool true))] 1)⟩),
(1048, ⟨[], 0, 0, some (.map [(0, .agg [i 1, i 0], .c (.bool true))] 1)⟩),
(1071, ⟨[], 0, 0, some (.map [(0, .agg [i 1, i 1], .c (.bool true))] 1)⟩),
(1094, ⟨[], 0, 0, some (.map [(0, .agg [i 1, i 0], .c (.bool true))] 1)⟩),
(1117, ⟨[], 0, 0, some (.map [(0, .agg [i 1, i 1], .c (.bool true))] 1)⟩),
(1140, ⟨[], 0, 0, some (.map [(0, .agg [i 1, i 0], .c (.bool true))] 1)⟩),
(1163, ⟨[], 0, 0, some (.map [(0, .agg [i 1, i 1], .c (.bool true))] 1)⟩),
(1186, ⟨[], 0, 0, some (.map [(0, .agg [i 1, i 0], .c (.bool true))] 1)⟩),
(1209, ⟨[], 0, 0, some (.map [(0, .agg [i 1, i 1], .c (.bool true))] 1)⟩),
(1232, ⟨[], 0, 0, some (.map [(0, .agg [i 1, i 0], .c (.bool true))] 1)⟩),
(1255, ⟨[], 0, 0, some (.map [(0, .agg [i 1, i 1], .c (.bool true))] 1)⟩),
(1278, ⟨[], 0, 0, some (.map [(0, .agg [i 1, i 0], .c (.bool true))] 1)⟩),
(1301, ⟨[], 0, 0, some (.map [(0, .agg [i 1, i 1], .c (.bool true))] 1)⟩),
(1324, ⟨[], 0, 0, some (.map [(0, .agg [i 1, i 0], .c (.bool true))] 1)⟩),
(1347, ⟨[], 0, 0, some (.map [(0, .agg [i 1, i 1], .c (.bool true))] 1)⟩),
(1370, ⟨[], 0, 0, some (.map [(0, .agg [i 1, i 0], .c (.bool true))] 1)⟩),
(1393, ⟨[], 0, 0, some (.map [] 0)⟩),
(1403, ⟨[.map 967, .map 980, .map 1002, .map 1025, .map 1048, .map 1071, .map 1094, .map 1117, .map 1140, .map 1163, .map 1186, .map 1209, .map 1232, .map 1255, .map 1278, .map 1301, .map 1324, .map 1347, .map 1370, .map 1393], 181, 1, none⟩)]
private noncomputable abbrev l3 : Bls := [(0, ⟨[.snil, i 0, i 0], 89, 0, none⟩),
(3, ⟨[o 45 0 19, i 3, i 0, i 0, i 0], 41, 0, none⟩),
(4, ⟨[i 0, o 9 0 2, f 3 0 1], 38, 0, none⟩),
(5, ⟨[f 7 0 1, f 0 0 1, .snil, .snil, f 4 0 1, i 0], 34, 0, none⟩),
(6, ⟨[i 0, i 0, i 0, i 0], 26, 0, none⟩),
(7, ⟨[f 6 0 2], 27, 0, none⟩),
(9, ⟨[i 0, i 0, i 1, i 0], 26, 2, none⟩),
(45, ⟨[i 1, i 0, i 0, i 0, i 7, .snil, i 5, i 1, i 0, i 0, i 0, .snil, i 8, i 0, i 1, i 0, i 0, .snil, i 8, i 0, i 1, i 0, i 1, .snil, i 8, i 0, i 1, i 0, i 0, .snil, i 8, i 0, i 1, i 0, i 1, .snil, i 8, i 0, i 1, i 0, i 0, .snil, i 8, i 0, i 1, i 0, i 1, .snil, i 8, i 0, i 1, i 0, i 0, .snil, i 8, i 0, i 1, i 0, i 1, .snil, i 8, i 0, i 1, i 0, i 0, .snil, i 8, i 0, i 1, i 0, i 1, .snil, i 8, i 0, i 1, i 0, i 0, .snil, i 8, i 0, i 1, i 0, i 1, .snil, i 8, i 0, i 1, i 0, i 0, .snil, i 8, i 0, i 1, i 0, i 1, .snil, i 8, i 0, i 1, i 0, i 0, .snil, i 8, i 0, i 1, i 0, i 1, .snil, i 8, i 0, i 1, i 0, i 0, .snil], 44, 6, none⟩),
(46, ⟨[o 54 0 1, o 58 0 1, o 119 0 1, o 110 0 1, o 112 0 1, i 5], 150, 0, none⟩),
(52, ⟨[i 0, i 1], 3, 1, none⟩),
(54, ⟨[o 52 0 2], 42, 1, none⟩),
(58, ⟨[i 2], 3, 1, none⟩),
(110, ⟨[i 1], 3, 1, none⟩),
(112, ⟨[i 0], 3, 1, none⟩),
(117, ⟨[i 3, i 4], 3, 1, none⟩),
(119, ⟨[o 117 0 2], 42, 1, none⟩),
(210, ⟨[o 220 0 5], 157, 0, none⟩),
(220, ⟨[i 0, i 1, i 2, i 3, i 4], 3, 1, none⟩),
(221, ⟨[.snil, .snil, .snil, .snil, .snil], 162, 0, none⟩),
(222, ⟨[o 273 0 1], 99, 0, none⟩),
(223, ⟨[], 0, 0, some (.map [] 0)⟩),
(224, ⟨[], 0, 0, some (.map [] 1)⟩),
(225, ⟨[.snil, o 652 0 0, .map 224, i 1], 161, 0, none⟩),
(226, ⟨[.ptr 5 0, .ptr 46 0, .ptr 210 0, o 265 0 5, o 268 0 5, o 271 0 5, f 221 0 5, .ptr 222 0, .map 223, .ptr 225 0], 105, 0, none⟩),
e 227 99,
e 230 99,
e 233 99,
(236, ⟨[o 650 0 1], 99, 0, none⟩),
e 242 99,
e 245 99,
e 248 99,
e 251 99,
e 254 99,
e 257 99,
e 260 99,
e 263 99,
(265, ⟨[.ptr 227 0, .ptr 236 0, .ptr 245 0, .ptr 254 0, .ptr 263 0], 96, 1, none⟩),
e 266 99,
(268, ⟨[.ptr 230 0, .ptr 798 0, .ptr 248 0, .ptr 257 0, .ptr 266 0], 96, 1, none⟩),
e 269 99,
(271, ⟨[.ptr 233 0, .ptr 242 0, .ptr 251 0, .ptr 260 0, .ptr 269 0], 96, 1, none⟩),
(273, ⟨[.int .u64 (.ofNat 1)], 229, 1, none⟩),
(650, ⟨[.int .u64 (.ofNat 1)], 229, 1, none⟩),
(652, ⟨[i 0], 3, 1, none⟩),
(797, ⟨[.int .u64 (.ofNat 1)], 229, 1, none⟩),
(798, ⟨[o 797 0 1], 99, 0, none⟩)]
private noncomputable def m0 : MM := ⟨[56], l0, 46, [⟨56, 0, [.v (.c (.ptr 5 0))], .v (.c (.nili))⟩]⟩
private theorem m0_k : H0.tbl m0 = true := by kernel_rfl
private noncomputable def h1 : HK := H0.memo m0 m0_k
private noncomputable def m1 : MM := ⟨[91], [(3, ⟨[o 45 0 19, i 3, i 0, i 0, i 0], 41, 0, none⟩),
(4, ⟨[i 0, o 9 0 2, f 3 0 1], 38, 0, none⟩),
(5, ⟨[f 7 0 1, f 0 0 1, .snil, .snil, f 4 0 1, i 0], 34, 0, none⟩)], 101, [⟨91, 0, [.v (.c (.ptr 5 0)), .v (.c (i 0))], .tup [.agg [i 0, i 0, i 0], .c (.bool true)]⟩,
⟨91, 1, [.v (.c (.ptr 5 0)), .v (.c (i 1))], .tup [.agg [i 0, i 0, i 1], .c (.bool true)]⟩,
⟨91, 2, [.v (.c (.ptr 5 0)), .v (.c (i 2))], .tup [.agg [i 0, i 0, i 2], .c (.bool true)]⟩,
⟨91, 3, [.v (.c (.ptr 5 0)), .v (.c (i 3))], .tup [.agg [i 0, i 0, i 3], .c (.bool true)]⟩,
⟨91, 4, [.v (.c (.ptr 5 0)), .v (.c (i 4))], .tup [.agg [i 0, i 0, i 4], .c (.bool true)]⟩,
⟨91, 5, [.v (.c (.ptr 5 0)), .v (.c (i 5))], .tup [.agg [i 0, i 0, i 5], .c (.bool true)]⟩,
⟨91, 6, [.v (.c (.ptr 5 0)), .v (.c (i 6))], .tup [.agg [i 0, i 0, i 6], .c (.bool true)]⟩,
⟨91, 7, [.v (.c (.ptr 5 0)), .v (.c (i 7))], .tup [.agg [i 0, i 0, i 7], .c (.bool true)]⟩,
⟨91, 8, [.v (.c (.ptr 5 0)), .v (.c (i 8))], .tup [.agg [i 0, i 0, i 8], .c (.bool true)]⟩,
⟨91, 9, [.v (.c (.ptr 5 0)), .v (.c (i 9))], .tup [.agg [i 0, i 0, i 9], .c (.bool true)]⟩,
⟨91, 10, [.v (.c (.ptr 5 0)), .v (.c (i 10))], .tup [.agg [i 0, i 0, i 10], .c (.bool true)]⟩,
⟨91, 11, [.v (.c (.ptr 5 0)), .v (.c (i 11))], .tup [.agg [i 0, i 0, i 11], .c (.bool true)]⟩,
⟨91, 12, [.v (.c (.ptr 5 0)), .v (.c (i 12))], .tup [.agg [i 0, i 0, i 12], .c (.bool true)]⟩,
⟨91, 13, [.v (.c (.ptr 5 0)), .v (.c (i 13))], .tup [.agg [i 0, i 0, i 13], .c (.bool true)]⟩,
⟨91, 14, [.v (.c (.ptr 5 0)), .v (.c (i 14))], .tup [.agg [i 0, i 0, i 14], .c (.bool true)]⟩,
⟨91, 15, [.v (.c (.ptr 5 0)), .v (.c (i 15))], .tup [.agg [i 0, i 0, i 15], .c (.bool true)]⟩,
⟨91, 16, [.v (.c (.ptr 5 0)), .v (.c (i 16))], .tup [.agg [i 0, i 0, i 16], .c (.bool true)]⟩,
⟨91, 17, [.v (.c (.ptr 5 0)), .v (.c (i 17))], .tup [.agg [i 0, i 0, i 17], .c (.bool true)]⟩,
⟨91, 18, [.v (.c (.ptr 5 0)), .v (.c (i 18))], .tup [.agg [i 0, i 0, i 18], .c (.bool true)]⟩,
⟨91, 19, [.v (.c (.ptr 5 0)), .v (.c (i 19))], .tup [.agg [i 0, i 0, i 19], .c (.bool true)]⟩]⟩
private theorem m1_k : h1.tbl m1 = true := by kernel_rfl
private noncomputable def h2 : HK := h1.memo m1 m1_k
private noncomputable def s1 : RE := ⟨35, [.v (.c (.ptr 5 0))], 46, .v (.c (.ptr 46 0)), [(46, ⟨[o 54 0 1, o 58 0 1, o 119 0 1, o 110 0 1, o 112 0 1, i 5], 150, 0, none⟩),
(52, ⟨[i 0, i 1], 3, 1, none⟩),
(54, ⟨[o 52 0 2], 42, 1, none⟩),
(58, ⟨[i 2], 3, 1, none⟩),
(110, ⟨[i 1], 3, 1, none⟩),
(112, ⟨[i 0], 3, 1, none⟩),
(117, ⟨[i 3, i 4], 3, 1, none⟩),
(119, ⟨[o 117 0 2], 42, 1, none⟩)], 210⟩
private theorem s1_k : h2.srp l0 s1 = true := by kernel_rfl
private noncomputable def h3 : HK := h2.srep _ s1 s1_k
private noncomputable def s2 : RE := ⟨75, [.v (.c (.ptr 5 0))], 439, .v (.c (o 478 0 20)), [(478, ⟨[i 0, i 0, i 0, i 0, i 0, i 1, i 0, i 0, i 2, i 0, i 0, i 3, i 0, i 0, i 4, i 0, i 0, i 5, i 0, i 0, i 6, i 0, i 0, i 7, i 0, i 0, i 8, i 0, i 0, i 9, i 0, i 0, i 10, i 0, i 0, i 11, i 0, i 0, i 12, i 0, i 0, i 13, i 0, i 0, i 14, i 0, i 0, i 15, i 0, i 0, i 16, i 0, i 0, i 17, i 0, i 0, i 18, i 0, i 0, i 19], 138, 3, none⟩)], 479⟩
private theorem s2_k : h3.srp l0 s2 = true := by kernel_rfl
private noncomputable def h4 : HK := h3.srep _ s2 s2_k
private noncomputable def s3 : RE := ⟨9, [.v (.c (.ptr 5 0)), .v (.c (.snil))], 46, .v (.c (.ptr 226 0)), l1, 799⟩
private theorem s3_k : h4.rep l0 s3 = true := by kernel_rfl
private noncomputable def h5 : HK := h4.repl _ s3 s3_k
private noncomputable def s4 : RE := ⟨43, [.v (.c (.ptr 5 0)), .v (.c (.ptr 226 0))], 801, .v (.c (.ptr 801 0)), l2, 1404⟩
private theorem s4_k : h5.srp l3 s4 = true := by kernel_rfl
private noncomputable def h6 : HK := h5.srep _ s4 s4_k
private noncomputable def s5 : RE := ⟨11, [.v (.c (.ptr 5 0)), .v (.c (.ptr 226 0)), .v (.c (i 0))], 2029, .v (.c (o 2355 0 2)), [(2355, ⟨[i 1, i 0, i 1, i 1, i 0, i 0, i 0, i 0, i 0, i 0, i 0, i 0, i 0, i 0, i 0, i 0, i 0, i 0, i 0, i 0, i 0, i 0, i 0, i 0, i 0, i 0, i 0, i 0, i 0, i 0, i 0, i 0, i 0, i 0, i 0, i 0, i 0, i 0], 48, 2, none⟩)], 2707⟩
private theorem s5_k : h6.srp l3 s5 = true := by kernel_rfl
private noncomputable def h7 : HK := h6.srep _ s5 s5_k
theorem MemoryStores_17_0_run : isBool true (runW h7.K 3 [ai (Int.ofNat 17), ai (Int.ofNat 0)] s0) = true := by kernel_rfl
theorem MemoryStores_17_0_law {args : Array Value} (ha : VAs (fun _ => none) [ai (Int.ofNat 17), ai (Int.ofNat 0)] args.toList) (w : World) (hT : Tab w) :
    Calls Tryz.prog 3 args w fun e w' => Below w.heap.size w w' ∧ e = .returned (.bool true) := h7.law MemoryStores_17_0_run ha w hT
theorem MemoryStores_17_1_run : isBool true (runW h7.K 3 [ai (Int.ofNat 17), ai (Int.ofNat 1)] s0) = true := by kernel_rfl
theorem MemoryStores_17_1_law {args : Array Value} (ha : VAs (fun _ => none) [ai (Int.ofNat 17), ai (Int.ofNat 1)] args.toList) (w : World) (hT : Tab w) :
    Calls Tryz.prog 3 args w fun e w' => Below w.heap.size w w' ∧ e = .returned (.bool true) := h7.law MemoryStores_17_1_run ha w hT
theorem MemoryStores_17_2_run : isBool true (runW h7.K 3 [ai (Int.ofNat 17), ai (Int.ofNat 2)] s0) = true := by kernel_rfl
theorem MemoryStores_17_2_law {args : Array Value} (ha : VAs (fun _ => none) [ai (Int.ofNat 17), ai (Int.ofNat 2)] args.toList) (w : World) (hT : Tab w) :
    Calls Tryz.prog 3 args w fun e w' => Below w.heap.size w w' ∧ e = .returned (.bool true) := h7.law MemoryStores_17_2_run ha w hT
theorem MemoryStores_17_3_run : isBool true (runW h7.K 3 [ai (Int.ofNat 17), ai (Int.ofNat 3)] s0) = true := by kernel_rfl
theorem MemoryStores_17_3_law {args : Array Value} (ha : VAs (fun _ => none) [ai (Int.ofNat 17), ai (Int.ofNat 3)] args.toList) (w : World) (hT : Tab w) :
    Calls Tryz.prog 3 args w fun e w' => Below w.heap.size w w' ∧ e = .returned (.bool true) := h7.law MemoryStores_17_3_run ha w hT
theorem MemoryStores_17_4_run : isBool true (runW h7.K 3 [ai (Int.ofNat 17), ai (Int.ofNat 4)] s0) = true := by kernel_rfl
theorem MemoryStores_17_4_law {args : Array Value} (ha : VAs (fun _ => none) [ai (Int.ofNat 17), ai (Int.ofNat 4)] args.toList) (w : World) (hT : Tab w) :
    Calls Tryz.prog 3 args w fun e w' => Below w.heap.size w w' ∧ e = .returned (.bool true) := h7.law MemoryStores_17_4_run ha w hT
theorem MemoryStores_17_5_run : isBool true (runW h7.K 3 [ai (Int.ofNat 17), ai (Int.ofNat 5)] s0) = true := by kernel_rfl
theorem MemoryStores_17_5_law {args : Array Value} (ha : VAs (fun _ => none) [ai (Int.ofNat 17), ai (Int.ofNat 5)] args.toList) (w : World) (hT : Tab w) :
    Calls Tryz.prog 3 args w fun e w' => Below w.heap.size w w' ∧ e = .returned (.bool true) := h7.law MemoryStores_17_5_run ha w hT
theorem MemoryStores_17_6_run : isBool true (runW h7.K 3 [ai (Int.ofNat 17), ai (Int.ofNat 6)] s0) = true := by kernel_rfl
theorem MemoryStores_17_6_law {args : Array Value} (ha : VAs (fun _ => none) [ai (Int.ofNat 17), ai (Int.ofNat 6)] args.toList) (w : World) (hT : Tab w) :
    Calls Tryz.prog 3 args w fun e w' => Below w.heap.size w w' ∧ e = .returned (.bool true) := h7.law MemoryStores_17_6_run ha w hT
theorem MemoryStores_17_7_run : isBool true (runW h7.K 3 [ai (Int.ofNat 17), ai (Int.ofNat 7)] s0) = true := by kernel_rfl
theorem MemoryStores_17_7_law {args : Array Value} (ha : VAs (fun _ => none) [ai (Int.ofNat 17), ai (Int.ofNat 7)] args.toList) (w : World) (hT : Tab w) :
    Calls Tryz.prog 3 args w fun e w' => Below w.heap.size w w' ∧ e = .returned (.bool true) := h7.law MemoryStores_17_7_run ha w hT
theorem MemoryStores_17_8_run : isBool true (runW h7.K 3 [ai (Int.ofNat 17), ai (Int.ofNat 8)] s0) = true := by kernel_rfl
theorem MemoryStores_17_8_law {args : Array Value} (ha : VAs (fun _ => none) [ai (Int.ofNat 17), ai (Int.ofNat 8)] args.toList) (w : World) (hT : Tab w) :
    Calls Tryz.prog 3 args w fun e w' => Below w.heap.size w w' ∧ e = .returned (.bool true) := h7.law MemoryStores_17_8_run ha w hT
theorem MemoryStores_17_9_run : isBool true (runW h7.K 3 [ai (Int.ofNat 17), ai (Int.ofNat 9)] s0) = true := by kernel_rfl
theorem MemoryStores_17_9_law {args : Array Value} (ha : VAs (fun _ => none) [ai (Int.ofNat 17), ai (Int.ofNat 9)] args.toList) (w : World) (hT : Tab w) :
    Calls Tryz.prog 3 args w fun e w' => Below w.heap.size w w' ∧ e = .returned (.bool true) := h7.law MemoryStores_17_9_run ha w hT
theorem MemoryStores_17_10_run : isBool true (runW h7.K 3 [ai (Int.ofNat 17), ai (Int.ofNat 10)] s0) = true := by kernel_rfl
theorem MemoryStores_17_10_law {args : Array Value} (ha : VAs (fun _ => none) [ai (Int.ofNat 17), ai (Int.ofNat 10)] args.toList) (w : World) (hT : Tab w) :
    Calls Tryz.prog 3 args w fun e w' => Below w.heap.size w w' ∧ e = .returned (.bool true) := h7.law MemoryStores_17_10_run ha w hT
theorem MemoryStores_17_11_run : isBool true (runW h7.K 3 [ai (Int.ofNat 17), ai (Int.ofNat 11)] s0) = true := by kernel_rfl
theorem MemoryStores_17_11_law {args : Array Value} (ha : VAs (fun _ => none) [ai (Int.ofNat 17), ai (Int.ofNat 11)] args.toList) (w : World) (hT : Tab w) :
    Calls Tryz.prog 3 args w fun e w' => Below w.heap.size w w' ∧ e = .returned (.bool true) := h7.law MemoryStores_17_11_run ha w hT
theorem MemoryStores_17_12_run : isBool true (runW h7.K 3 [ai (Int.ofNat 17), ai (Int.ofNat 12)] s0) = true := by kernel_rfl
theorem MemoryStores_17_12_law {args : Array Value} (ha : VAs (fun _ => none) [ai (Int.ofNat 17), ai (Int.ofNat 12)] args.toList) (w : World) (hT : Tab w) :
    Calls Tryz.prog 3 args w fun e w' => Below w.heap.size w w' ∧ e = .returned (.bool true) := h7.law MemoryStores_17_12_run ha w hT
theorem MemoryStores_17_13_run : isBool true (runW h7.K 3 [ai (Int.ofNat 17), ai (Int.ofNat 13)] s0) = true := by kernel_rfl
theorem MemoryStores_17_13_law {args : Array Value} (ha : VAs (fun _ => none) [ai (Int.ofNat 17), ai (Int.ofNat 13)] args.toList) (w : World) (hT : Tab w) :
    Calls Tryz.prog 3 args w fun e w' => Below w.heap.size w w' ∧ e = .returned (.bool true) := h7.law MemoryStores_17_13_run ha w hT
theorem MemoryStores_17_14_run : isBool true (runW h7.K 3 [ai (Int.ofNat 17), ai (Int.ofNat 14)] s0) = true := by kernel_rfl
theorem MemoryStores_17_14_law {args : Array Value} (ha : VAs (fun _ => none) [ai (Int.ofNat 17), ai (Int.ofNat 14)] args.toList) (w : World) (hT : Tab w) :
    Calls Tryz.prog 3 args w fun e w' => Below w.heap.size w w' ∧ e = .returned (.bool true) := h7.law MemoryStores_17_14_run ha w hT
theorem MemoryStores_17_15_run : isBool true (runW h7.K 3 [ai (Int.ofNat 17), ai (Int.ofNat 15)] s0) = true := by kernel_rfl
theorem MemoryStores_17_15_law {args : Array Value} (ha : VAs (fun _ => none) [ai (Int.ofNat 17), ai (Int.ofNat 15)] args.toList) (w : World) (hT : Tab w) :
    Calls Tryz.prog 3 args w fun e w' => Below w.heap.size w w' ∧ e = .returned (.bool true) := h7.law MemoryStores_17_15_run ha w hT
theorem MemoryStores_17_16_run : isBool true (runW h7.K 3 [ai (Int.ofNat 17), ai (Int.ofNat 16)] s0) = true := by kernel_rfl
theorem MemoryStores_17_16_law {args : Array Value} (ha : VAs (fun _ => none) [ai (Int.ofNat 17), ai (Int.ofNat 16)] args.toList) (w : World) (hT : Tab w) :
    Calls Tryz.prog 3 args w fun e w' => Below w.heap.size w w' ∧ e = .returned (.bool true) := h7.law MemoryStores_17_16_run ha w hT
theorem MemoryStores_17_17_run : isBool true (runW h7.K 3 [ai (Int.ofNat 17), ai (Int.ofNat 17)] s0) = true := by kernel_rfl
theorem MemoryStores_17_17_law {args : Array Value} (ha : VAs (fun _ => none) [ai (Int.ofNat 17), ai (Int.ofNat 17)] args.toList) (w : World) (hT : Tab w) :
    Calls Tryz.prog 3 args w fun e w' => Below w.heap.size w w' ∧ e = .returned (.bool true) := h7.law MemoryStores_17_17_run ha w hT
theorem MemoryStores_17_neg (j : Nat) : isBool true (runW hkT 3 [ai (Int.ofNat 17), ai (Int.negSucc j)] s0) = true := by kernel_rfl
theorem MemoryStores_17_big (j : Nat) : isBool true (runW hkT 3 [ai (Int.ofNat 17), ai (Int.ofNat (j + 18))] s0) = true := by kernel_rfl
theorem MemoryStores_17_all (w : World) (hT : Tab w) (m : Int) : Calls Tryz.prog 3 #[.int .i64 (Int.ofNat 17), .int .i64 m] w fun e w' => Below w.heap.size w w' ∧ e = .returned (.bool true) := by
  rcases m with m | k
  · by_cases h : 18 ≤ m
    · obtain ⟨k, rfl⟩ : ∃ k, m = k + 18 := ⟨m - 18, by omega⟩
      exact lawT (MemoryStores_17_big k) (by exact ⟨rfl, rfl, trivial⟩) w hT
    · rcases (by omega : m = 0 ∨ m = 1 ∨ m = 2 ∨ m = 3 ∨ m = 4 ∨ m = 5 ∨ m = 6 ∨ m = 7 ∨ m = 8 ∨ m = 9 ∨ m = 10 ∨ m = 11 ∨ m = 12 ∨ m = 13 ∨ m = 14 ∨ m = 15 ∨ m = 16 ∨ m = 17) with rfl | rfl | rfl | rfl | rfl | rfl | rfl | rfl | rfl | rfl | rfl | rfl | rfl | rfl | rfl | rfl | rfl | rfl
      · exact MemoryStores_17_0_law (by exact ⟨rfl, rfl, trivial⟩) w hT
      · exact MemoryStores_17_1_law (by exact ⟨rfl, rfl, trivial⟩) w hT
      · exact MemoryStores_17_2_law (by exact ⟨rfl, rfl, trivial⟩) w hT
      · exact MemoryStores_17_3_law (by exact ⟨rfl, rfl, trivial⟩) w hT
      · exact MemoryStores_17_4_law (by exact ⟨rfl, rfl, trivial⟩) w hT
      · exact MemoryStores_17_5_law (by exact ⟨rfl, rfl, trivial⟩) w hT
      · exact MemoryStores_17_6_law (by exact ⟨rfl, rfl, trivial⟩) w hT
      · exact MemoryStores_17_7_law (by exact ⟨rfl, rfl, trivial⟩) w hT
      · exact MemoryStores_17_8_law (by exact ⟨rfl, rfl, trivial⟩) w hT
      · exact MemoryStores_17_9_law (by exact ⟨rfl, rfl, trivial⟩) w hT
      · exact MemoryStores_17_10_law (by exact ⟨rfl, rfl, trivial⟩) w hT
      · exact MemoryStores_17_11_law (by exact ⟨rfl, rfl, trivial⟩) w hT
      · exact MemoryStores_17_12_law (by exact ⟨rfl, rfl, trivial⟩) w hT
      · exact MemoryStores_17_13_law (by exact ⟨rfl, rfl, trivial⟩) w hT
      · exact MemoryStores_17_14_law (by exact ⟨rfl, rfl, trivial⟩) w hT
      · exact MemoryStores_17_15_law (by exact ⟨rfl, rfl, trivial⟩) w hT
      · exact MemoryStores_17_16_law (by exact ⟨rfl, rfl, trivial⟩) w hT
      · exact MemoryStores_17_17_law (by exact ⟨rfl, rfl, trivial⟩) w hT
  · exact lawT (MemoryStores_17_neg k) (by exact ⟨rfl, rfl, trivial⟩) w hT
end Go.Proofs.YtjbnkokcbhfdgabGreatDoor
