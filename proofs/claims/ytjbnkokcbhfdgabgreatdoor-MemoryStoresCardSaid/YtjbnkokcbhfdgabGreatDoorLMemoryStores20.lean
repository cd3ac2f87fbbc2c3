/- Tables of calls, and a run that uses them. -/
import Derived.Test.YtjbnkokcbhfdgabGreatDoorLn22
namespace Go.Proofs.YtjbnkokcbhfdgabGreatDoor
open Go Go.RowKit Ev
set_option maxRecDepth 100000
set_option linter.unusedVariables false
private noncomputable abbrev i (n : Nat) : CV := .int .i64 (.ofNat n)
private noncomputable abbrev o (b a n : Nat) : CV := .slice b a n (.opn 0)
private noncomputable abbrev f (b a n : Nat) : CV := .slice b a n (.fix n)
private noncomputable abbrev e (k t : Nat) : Nat × BK := (k, ⟨[.snil], t, 0, none⟩)
private noncomputable abbrev l0 : Bls := [(0, ⟨[.snil, i 0, i 0], 89, 0, none⟩),
(3, ⟨[o 51 0 22, i 3, i 0, i 0, i 0], 41, 0, none⟩),
(4, ⟨[i 0, o 9 0 2, f 3 0 1], 38, 0, none⟩),
(5, ⟨[f 7 0 1, f 0 0 1, .snil, .snil, f 4 0 1, i 0], 34, 0, none⟩),
(6, ⟨[i 0, i 0, i 0, i 0], 26, 0, none⟩),
(7, ⟨[f 6 0 2], 27, 0, none⟩),
(9, ⟨[i 0, i 0, i 1, i 0], 26, 2, none⟩),
(51, ⟨[i 1, i 0, i 0, i 0, i 7, .snil, i 5, i 1, i 0, i 0, i 0, .snil, i 8, i 0, i 1, i 0, i 0, .snil, i 8, i 0, i 1, i 0, i 1, .snil, i 8, i 0, i 1, i 0, i 0, .snil, i 8, i 0, i 1, i 0, i 1, .snil, i 8, i 0, i 1, i 0, i 0, .snil, i 8, i 0, i 1, i 0, i 1, .snil, i 8, i 0, i 1, i 0, i 0, .snil, i 8, i 0, i 1, i 0, i 1, .snil, i 8, i 0, i 1, i 0, i 0, .snil, i 8, i 0, i 1, i 0, i 1, .snil, i 8, i 0, i 1, i 0, i 0, .snil, i 8, i 0, i 1, i 0, i 1, .snil, i 8, i 0, i 1, i 0, i 0, .snil, i 8, i 0, i 1, i 0, i 1, .snil, i 8, i 0, i 1, i 0, i 0, .snil, i 8, i 0, i 1, i 0, i 1, .snil, i 8, i 0, i 1, i 0, i 0, .snil, i 8, i 0, i 1, i 0, i 1, .snil, i 8, i 0, i 1, i 0, i 0, .snil, i 8, i 0, i 1, i 0, i 1, .snil], 44, 6, none⟩)]
private noncomputable abbrev l1 : Bls := [(52, ⟨[o 60 0 1, o 64 0 1, o 131 0 1, o 122 0 1, o 124 0 1, i 5], 150, 0, none⟩),
(58, ⟨[i 0, i 1], 3, 1, none⟩),
(60, ⟨[o 58 0 2], 42, 1, none⟩),
(64, ⟨[i 2], 3, 1, none⟩),
(122, ⟨[i 1], 3, 1, none⟩),
(124, ⟨[i 0], 3, 1, none⟩),
(129, ⟨[i 3, i 4], 3, 1, none⟩),
(131, ⟨[o 129 0 2], 42, 1, none⟩),
(237, ⟨[o 247 0 5], 157, 0, none⟩),
(247, ⟨[i 0, i 1, i 2, i 3, i 4], 3, 1, none⟩),
(248, ⟨[.snil, .snil, .snil, .snil, .snil], 162, 0, none⟩),
(249, ⟨[o 300 0 1], 99, 0, none⟩),
(250, ⟨[], 0, 0, some (.map [] 0)⟩),
(251, ⟨[], 0, 0, some (.map [] 1)⟩),
(252, ⟨[.snil, o 730 0 0, .map 251, i 1], 161, 0, none⟩),
(253, ⟨[.ptr 5 0, .ptr 52 0, .ptr 237 0, o 292 0 5, o 295 0 5, o 298 0 5, f 248 0 5, .ptr 249 0, .map 250, .ptr 252 0], 105, 0, none⟩),
e 254 99,
e 257 99,
e 260 99,
(263, ⟨[o 728 0 1], 99, 0, none⟩),
e 269 99,
e 272 99,
e 275 99,
e 278 99,
e 281 99,
e 284 99,
e 287 99,
e 290 99,
(292, ⟨[.ptr 254 0, .ptr 263 0, .ptr 272 0, .ptr 281 0, .ptr 290 0], 96, 1, none⟩),
e 293 99,
(295, ⟨[.ptr 257 0, .ptr 897 0, .ptr 275 0, .ptr 284 0, .ptr 293 0], 96, 1, none⟩),
e 296 99,
(298, ⟨[.ptr 260 0, .ptr 269 0, .ptr 278 0, .ptr 287 0, .ptr 296 0], 96, 1, none⟩),
(300, ⟨[.int .u64 (.ofNat 1)], 229, 1, none⟩),
(728, ⟨[.int .u64 (.ofNat 1)], 229, 1, none⟩),
(730, ⟨[i 0], 3, 1, none⟩),
(896, ⟨[.int .u64 (.ofNat 1)], 229, 1, none⟩),
(897, ⟨[o 896 0 1], 99, 0, none⟩)]
private noncomputable abbrev l2 : Bls := [(900, ⟨[.ptr 5 0, .ptr 253 0, o 1595 0 23, o 1042 0 1], 178, 0, none⟩),
(903, ⟨[i 0, f 905 0 23], 258, 0, none⟩),
(905, ⟨[.snil, o 911 0 1, o 917 0 1, o 923 0 1, o 929 0 1, o 935 0 1, o 941 0 1, o 947 0 1, o 953 0 1, o 959 0 1, o 965 0 1, o 971 0 1, o 977 0 1, o 983 0 1, o 989 0 1, o 995 0 1, o 1001 0 1, o 1007 0 1, o 1013 0 1, o 1019 0 1, o 1025 0 1, o 1031 0 1, o 1037 0 1], 42, 0, none⟩),
(911, ⟨[i 0], 3, 1, none⟩),
(917, ⟨[i 1], 3, 1, none⟩),
(923, ⟨[i 2], 3, 1, none⟩),
(929, ⟨[i 3], 3, 1, none⟩),
(935, ⟨[i 4], 3, 1, none⟩),
(941, ⟨[i 5], 3, 1, none⟩),
(947, ⟨[i 6], 3, 1, none⟩),
(953, ⟨[i 7], 3, 1, none⟩),
(959, ⟨[i 8], 3, 1, none⟩),
(965, ⟨[i 9], 3, 1, none⟩),
(971, ⟨[i 10], 3, 1, none⟩),
(977, ⟨[i 11], 3, 1, none⟩),
(983, ⟨[i 12], 3, 1, none⟩),
(989, ⟨[i 13], 3, 1, none⟩),
(995, ⟨[i 14], 3, 1, none⟩),
(1001, ⟨[i 15], 3, 1, none⟩),
(1007, ⟨[i 16], 3, 1, none⟩),
(1013, ⟨[i 17], 3, 1, none⟩),
(1019, ⟨[i 18], 3, 1, none⟩),
(1025, ⟨[i 19], 3, 1, none⟩),
(1031, ⟨[i 20], 3, 1, none⟩),
(1037, ⟨[i 21], 3, 1, none⟩),
(1042, ⟨[.ptr 903 0], 179, 1, none⟩),
(1090, ⟨[], 0, 0, some (.map [] 0)⟩),
(1103, ⟨[], 0, 0, some (.map [(0, .agg [i 1, i 0], .c (.bool true)), (1, .agg [i 1, i 1], .c (.bool true))] 2)⟩),
(1125, ⟨[], 0, 0, some (.map [(0, .agg [i 1, i 0], .c (.bool true))] 1)⟩),
(1148, ⟨[], 0, 0, some (.map [(0, .agg [i 1, i 1], .c (.bool true))] 1)⟩),
(1171, ⟨[], 0, 0, some (.map [(0, .agg [i 1, i 0], .c (.bool true))] 1)⟩),
(1194, ⟨[], 0, 0, some (.map [(0, .agg [i 1, i 1], .c (.bool true))] 1)⟩),
(1217, ⟨[], 0, 0, some (.map [(0, .agg [i 1, i 0], .c (.bool true))] 1)⟩),
(1240, ⟨[], 0, 0, some (.map [(0, .agg [i 1, i 1], .c (.bool true))] 1)⟩),
(1263, ⟨[], 0, 0, some (.map [(0, .agg [i 1, i 0], .c (.bool true))] 1)⟩),
(1286, ⟨[], 0, 0, some (.map [(0, .agg [i 1, i 1], .c (.bool true))] 1)⟩),
(1309, ⟨[], 0, 0, some (.map [(0, .agg [i 1, i 0], .c (.bool true))] 1)⟩),
(1332, ⟨[], 0, 0, some (.map [(0, .agg [i 1, i 1], .c (.bool true))] 1)⟩),
(1355, ⟨[], 0, 0, some (.map [(0, .agg [i 1, i 0], .c (.bool true))] 1)⟩),
(1378, ⟨[], 0, 0, some (.map [(0, .agg [i 1, i 1], .c (.bool true))] 1)⟩),
(1401, ⟨[], 0, 0, some (.map [(0, .agg [i 1, i 0], .c (.bool true))] 1)⟩),
(1424, ⟨[], 0, 0, some (.map [(0, .agg [i 1, i 1], .c (.bool true))] 1)⟩),
(1447, ⟨[], 0, 0, some (.map [(0, .agg [i 1, i 0], .c (.bool true))] 1)⟩),
(1470, ⟨[], 0, 0, some (.map [(0, .agg [i 1, i 1], .c (.bool true))] 1)⟩),
(1493, ⟨[], 0, 0, some (.map [(0, .agg [i 1, i 0], .c (.bool true))] 1)⟩),
(1516, ⟨[], 0, 0, some (.map [(0, .agg [i 1, i 1], .c (.bool true))] 1)⟩),
(1539, ⟨[], 0, 0, some (.map [(0, .agg [i 1, i 0], .c (.bool true))] 1)⟩),
(1562, ⟨[], 0, 0, some (.map [(0, .agg [i 1, i 1], .c (.bool true))] 1)⟩),
(1585, ⟨[], 0, 0, some (.map [] 0)⟩),
(1595, ⟨[.map 1090, .map 1103, .map 1125, .map 1148, .map 1171, .map 1194, .map 1217, .map 1240, .map 1263, .map 1286, .map 1309, .map 1332, .map 1355, .map 1378, .map 1401, .map 1424, .map 1447, .map 1470, .map 1493, .map 1516, .map 1539, .map 1562, .map 1585], 181, 1, none⟩)]
private noncomputable abbrev l3 : Bls := [(0, ⟨[.snil, i 0, i 0], 89, 0, none⟩),
(3, ⟨[o 51 0 22, i 3, i 0, i 0, i 0], 41, 0, none⟩),
(4, ⟨[i 0, o 9 0 2, f 3 0 1], 38, 0, none⟩),
(5, ⟨[f 7 0 1, f 0 0 1, .snil, .snil, f 4 0 1, i 0], 34, 0, none⟩),
(6, ⟨[i 0, i 0, i 0, i 0], 26, 0, none⟩),
(7, ⟨[f 6 0 2], 27, 0, none⟩),
(9, ⟨[i 0, i 0, i 1, i 0], 26, 2, none⟩),
(51, ⟨[i 1, i 0, i 0, i 0, i 7, .snil, i 5, i 1, i 0, i 0, i 0, .snil, i 8, i 0, i 1, i 0, i 0, .snil, i 8, i 0, i 1, i 0, i 1, .snil, i 8, i 0, i 1, i 0, i 0, .snil, i 8, i 0, i 1, i 0, i 1, .snil, i 8, i 0, i 1, i 0, i 0, .snil, i 8, i 0, i 1, i 0, i 1, .snil, i 8, i 0, i 1, i 0, i 0, .snil, i 8, i 0, i 1, i 0, i 1, .snil, i 8, i 0, i 1, i 0, i 0, .snil, i 8, i 0, i 1, i 0, i 1, .snil, i 8, i 0, i 1, i 0, i 0, .snil, i 8, i 0, i 1, i 0, i 1, .snil, i 8, i 0, i 1, i 0, i 0, .snil, i 8, i 0, i 1, i 0, i 1, .snil, i 8, i 0, i 1, i 0, i 0, .snil, i 8, i 0, i 1, i 0, i 1, .snil, i 8, i 0, i 1, i 0, i 0, .snil, i 8, i 0, i 1, i 0, i 1, .snil, i 8, i 0, i 1, i 0, i 0, .snil, i 8, i 0, i 1, i 0, i 1, .snil], 44, 6, none⟩),
(52, ⟨[o 60 0 1, o 64 0 1, o 131 0 1, o 122 0 1, o 124 0 1, i 5], 150, 0, none⟩),
(58, ⟨[i 0, i 1], 3, 1, none⟩),
(60, ⟨[o 58 0 2], 42, 1, none⟩),
(64, ⟨[i 2], 3, 1, none⟩),
(122, ⟨[i 1], 3, 1, none⟩),
(124, ⟨[i 0], 3, 1, none⟩),
(129, ⟨[i 3, i 4], 3, 1, none⟩),
(131, ⟨[o 129 0 2], 42, 1, none⟩),
(237, ⟨[o 247 0 5], 157, 0, none⟩),
(247, ⟨[i 0, i 1, i 2, i 3, i 4], 3, 1, none⟩),
(248, ⟨[.snil, .snil, .snil, .snil, .snil], 162, 0, none⟩),
(249, ⟨[o 300 0 1], 99, 0, none⟩),
(250, ⟨[], 0, 0, some (.map [] 0)⟩),
(251, ⟨[], 0, 0, some (.map [] 1)⟩),
(252, ⟨[.snil, o 730 0 0, .map 251, i 1], 161, 0, none⟩),
(253, ⟨[.ptr 5 0, .ptr 52 0, .ptr 237 0, o 292 0 5, o 295 0 5, o 298 0 5, f 248 0 5, .ptr 249 0, .map 250, .ptr 252 0], 105, 0, none⟩),
e 254 99,
e 257 99,
e 260 99,
(263, ⟨[o 728 0 1], 99, 0, none⟩),
e 269 99,
e 272 99,
e 275 99,
e 278 99,
e 281 99,
e 284 99,
e 287 99,
e 290 99,
(292, ⟨[.ptr 254 0, .ptr 263 0, .ptr 272 0, .ptr 281 0, .ptr 290 0], 96, 1, none⟩),
e 293 99,
(295, ⟨[.ptr 257 0, .ptr 897 0, .ptr 275 0, .ptr 284 0, .ptr 293 0], 96, 1, none⟩),
e 296 99,
(298, ⟨[.ptr 260 0, .ptr 269 0, .ptr 278 0, .ptr 287 0, .ptr 296 0], 96, 1, none⟩),
(300, ⟨[.int .u64 (.ofNat 1)], 229, 1, none⟩),
(728, ⟨[.int .u64 (.ofNat 1)], 229, 1, none⟩),
(730, ⟨[i 0], 3, 1, none⟩),
(896, ⟨[.int .u64 (.ofNat 1)], 229, 1, none⟩),
(897, ⟨[o 896 0 1], 99, 0, none⟩)]
private noncomputable def m0 : MM := ⟨[56], l0, 52, [⟨56, 0, [.v (.c (.ptr 5 0))], .v (.c (.nili))⟩]⟩
private theorem m0_k : H0.tbl m0 = true := by kernel_rfl
private noncomputable def h1 : HK := H0.memo m0 m0_k
private noncomputable def m1 : MM := ⟨[91], [(3, ⟨[o 51 0 22, i 3, i 0, i 0, i 0], 41, 0, none⟩),
(4, ⟨[i 0, o 9 0 2, f 3 0 1], 38, 0, none⟩),
(5, ⟨[f 7 0 1, f 0 0 1, .snil, .snil, f 4 0 1, i 0], 34, 0, none⟩)], 113, [⟨91, 0, [.v (.c (.ptr 5 0)), .v (.c (i 0))], .tup [.agg [i 0, i 0, i 0], .c (.bool true)]⟩,
⟨91, 1, [.v (.c (.ptr 5 0)), .v (.c (i 1))], .tup [.agg [i 0, i 0, i 1], .c (.bool true)]⟩,
⟨91, 2, [.v (.c (.ptr 5 0)), .v (.c (i 2))], .tup [.agg [i 0, i 0, i 2], .c (.bool true)]⟩,
⟨91, 3, [.v (.c (.ptr 5 0)), .v (.c (i 3))], .tup [.agg [i 0, i 0, i 3], .c (.bool true)]⟩,
⟨91, 4, [.v (.c (.ptr 5 0)), .v (.c (i 4))], .tup [.agg [i 0, i 0, i 4], .c (.bool true)]⟩,
⟨91, 5, [.v (.c (.ptr 5 0)), .v (.c (i 5))], .tup [.agg [i 0, i 0, i 5], .c (.bool true)]⟩,
⟨91, 6, [.v (.c (.ptr 5 0)), .v (.c (i 6))], .tup [.agg [i 0, i 0, i 6], .c (.bool true)]⟩,
⟨91, 7, [.v (.c (.ptr 5 0)), .v (.c (i 7))], .tup [.agg [i 0, i 0, i 7], .c (.bool true)]⟩,
⟨91, 8, [.v (.c (.ptr 5 0)), .v (.c (i 8))], .tup [.agg [i 0, i 0, i 8], .c (.bool true)]⟩,
⟨91, 9, [.v (.c (.ptr 5 0)), .v (.c (i 9))], .tup [.agg [i 0, i 0, i 9], .c (.bool true)]⟩,
⟨91, 10, [.v (.c (.ptr 5 0)), .v (.c (i 10))], .tup [.agg [i 0, i 0, i 10], .c (.bool true)]⟩,
⟨91, 11, [.v (.c (.ptr 5 0)), .v (.c (i 11))], .tup [.agg [i 0, i 0, i 11], .c (.bool true)]⟩,
⟨91, 12, [.v (.c (.ptr 5 0)), .v (.c (i 12))], .tup [.agg [i 0, i 0, i 12], .c (.bool true)]⟩,
⟨91, 13, [.v (.c (.ptr 5 0)), .v (.c (i 13))], .tup [.agg [i 0, i 0, i 13], .c (.bool true)]⟩,
⟨91, 14, [.v (.c (.ptr 5 0)), .v (.c (i 14))], .tup [.agg [i 0, i 0, i 14], .c (.bool true)]⟩,
⟨91, 15, [.v (.c (.ptr 5 0)), .v (.c (i 15))], .tup [.agg [i 0, i 0, i 15], .c (.bool true)]⟩,
⟨91, 16, [.v (.c (.ptr 5 0)), .v (.c (i 16))], .tup [.agg [i 0, i 0, i 16], .c (.bool true)]⟩,
⟨91, 17, [.v (.c (.ptr 5 0)), .v (.c (i 17))], .tup [.agg [i 0, i 0, i 17], .c (.bool true)]⟩,
⟨91, 18, [.v (.c (.ptr 5 0)), .v (.c (i 18))], .tup [.agg [i 0, i 0, i 18], .c (.bool true)]⟩,
⟨91, 19, [.v (.c (.ptr 5 0)), .v (.c (i 19))], .tup [.agg [i 0, i 0, i 19], .c (.bool true)]⟩,
⟨91, 20, [.v (.c (.ptr 5 0)), .v (.c (i 20))], .tup [.agg [i 0, i 0, i 20], .c (.bool true)]⟩,
⟨91, 21, [.v (.c (.ptr 5 0)), .v (.c (i 21))], .tup [.agg [i 0, i 0, i 21], .c (.bool true)]⟩,
⟨91, 22, [.v (.c (.ptr 5 0)), .v (.c (i 22))], .tup [.agg [i 0, i 0, i 22], .c (.bool true)]⟩]⟩
private theorem m1_k : h1.tbl m1 = true := by kernel_rfl
private noncomputable def h2 : HK := h1.memo m1 m1_k
private noncomputable def s1 : RE := ⟨35, [.v (.c (.ptr 5 0))], 52, .v (.c (.ptr 52 0)), [(52, ⟨[o 60 0 1, o 64 0 1, o 131 0 1, o 122 0 1, o 124 0 1, i 5], 150, 0, none⟩),
(58, ⟨[i 0, i 1], 3, 1, none⟩),
(60, ⟨[o 58 0 2], 42, 1, none⟩),
(64, ⟨[i 2], 3, 1, none⟩),
(122, ⟨[i 1], 3, 1, none⟩),
(124, ⟨[i 0], 3, 1, none⟩),
(129, ⟨[i 3, i 4], 3, 1, none⟩),
(131, ⟨[o 129 0 2], 42, 1, none⟩)], 237⟩
private theorem s1_k : h2.srp l0 s1 = true := by kernel_rfl
private noncomputable def h3 : HK := h2.srep _ s1 s1_k
private noncomputable def s2 : RE := ⟨75, [.v (.c (.ptr 5 0))], 487, .v (.c (o 532 0 23)), [(532, ⟨[i 0, i 0, i 0, i 0, i 0, i 1, i 0, i 0, i 2, i 0, i 0, i 3, i 0, i 0, i 4, i 0, i 0, i 5, i 0, i 0, i 6, i 0, i 0, i 7, i 0, i 0, i 8, i 0, i 0, i 9, i 0, i 0, i 10, i 0, i 0, i 11, i 0, i 0, i 12, i 0, i 0, i 13, i 0, i 0, i 14, i 0, i 0, i 15, i 0, i 0, i 16, i 0, i 0, i 17, i 0, i 0, i 18, i 0, i 0, i 19, i 0, i 0, i 20, i 0, i 0, i 21, i 0, i 0, i 22], 138, 3, none⟩)], 533⟩
private theorem s2_k : h3.srp l0 s2 = true := by kernel_rfl
private noncomputable def h4 : HK := h3.srep _ s2 s2_k
private noncomputable def s3 : RE := ⟨9, [.v (.c (.ptr 5 0)), .v (.c (.snil))], 52, .v (.c (.ptr 253 0)), l1, 898⟩
private theorem s3_k : h4.rep l0 s3 = true := by kernel_rfl
private noncomputable def h5 : HK := h4.repl _ s3 s3_k
private noncomputable def s4 : RE := ⟨43, [.v (.c (.ptr 5 0)), .v (.c (.ptr 253 0))], 900, .v (.c (.ptr 900 0)), l2, 1596⟩
private theorem s4_k : h5.srp l3 s4 = true := by kernel_rfl
private noncomputable def h6 : HK := h5.srep _ s4 s4_k
private noncomputable def s5 : RE := ⟨11, [.v (.c (.ptr 5 0)), .v (.c (.ptr 253 0)), .v (.c (i 0))], 2314, .v (.c (o 2691 0 2)), [(2691, ⟨[i 1, i 0, i 1, i 1, i 0, i 0, i 0, i 0, i 0, i 0, i 0, i 0, i 0, i 0, i 0, i 0, i 0, i 0, i 0, i 0, i 0, i 0, i 0, i 0, i 0, i 0, i 0, i 0, i 0, i 0, i 0, i 0, i 0, i 0, i 0, i 0, i 0, i 0, i 0, i 0, i 0, i 0, i 0, i 0], 48, 2, none⟩)], 3008⟩
private theorem s5_k : h6.srp l3 s5 = true := by kernel_rfl
private noncomputable def h7 : HK := h6.srep _ s5 s5_k
theorem MemoryStores_20_0_run : isBool true (runW h7.K 3 [ai (Int.ofNat 20), ai (Int.ofNat 0)] s0) = true := by kernel_rfl
theorem MemoryStores_20_0_law {args : Array Value} (ha : VAs (fun _ => none) [ai (Int.ofNat 20), ai (Int.ofNat 0)] args.toList) (w : World) (hT : Tab w) :
    Calls Tryz.prog 3 args w fun e w' => Below w.heap.size w w' ∧ e = .returned (.bool true) := h7.law MemoryStores_20_0_run ha w hT
theorem MemoryStores_20_1_run : isBool true (runW h7.K 3 [ai (Int.ofNat 20), ai (Int.ofNat 1)] s0) = true := by kernel_rfl
theorem MemoryStores_20_1_law {args : Array Value} (ha : VAs (fun _ => none) [ai (Int.ofNat 20), ai (Int.ofNat 1)] args.toList) (w : World) (hT : Tab w) :
    Calls Tryz.prog 3 args w fun e w' => Below w.heap.size w w' ∧ e = .returned (.bool true) := h7.law MemoryStores_20_1_run ha w hT
theorem MemoryStores_20_2_run : isBool true (runW h7.K 3 [ai (Int.ofNat 20), ai (Int.ofNat 2)] s0) = true := by kernel_rfl
theorem MemoryStores_20_2_law {args : Array Value} (ha : VAs (fun _ => none) [ai (Int.ofNat 20), ai (Int.ofNat 2)] args.toList) (w : World) (hT : Tab w) :
    Calls Tryz.prog 3 args w fun e w' => Below w.heap.size w w' ∧ e = .returned (.bool true) := h7.law MemoryStores_20_2_run ha w hT
theorem MemoryStores_20_3_run : isBool true (runW h7.K 3 [ai (Int.ofNat 20), ai (Int.ofNat 3)] s0) = true := by kernel_rfl
theorem MemoryStores_20_3_law {args : Array Value} (ha : VAs (fun _ => none) [ai (Int.ofNat 20), ai (Int.ofNat 3)] args.toList) (w : World) (hT : Tab w) :
    Calls Tryz.prog 3 args w fun e w' => Below w.heap.size w w' ∧ e = .returned (.bool true) := h7.law MemoryStores_20_3_run ha w hT
theorem MemoryStores_20_4_run : isBool true (runW h7.K 3 [ai (Int.ofNat 20), ai (Int.ofNat 4)] s0) = true := by kernel_rfl
theorem MemoryStores_20_4_law {args : Array Value} (ha : VAs (fun _ => none) [ai (Int.ofNat 20), ai (Int.ofNat 4)] args.toList) (w : World) (hT : Tab w) :
    Calls Tryz.prog 3 args w fun e w' => Below w.heap.size w w' ∧ e = .returned (.bool true) := h7.law MemoryStores_20_4_run ha w hT
theorem MemoryStores_20_5_run : isBool true (runW h7.K 3 [ai (Int.ofNat 20), ai (Int.ofNat 5)] s0) = true := by kernel_rfl
theorem MemoryStores_20_5_law {args : Array Value} (ha : VAs (fun _ => none) [ai (Int.ofNat 20), ai (Int.ofNat 5)] args.toList) (w : World) (hT : Tab w) :
    Calls Tryz.prog 3 args w fun e w' => Below w.heap.size w w' ∧ e = .returned (.bool true) := h7.law MemoryStores_20_5_run ha w hT
theorem MemoryStores_20_6_run : isBool true (runW h7.K 3 [ai (Int.ofNat 20), ai (Int.ofNat 6)] s0) = true := by kernel_rfl
theorem MemoryStores_20_6_law {args : Array Value} (ha : VAs (fun _ => none) [ai (Int.ofNat 20), ai (Int.ofNat 6)] args.toList) (w : World) (hT : Tab w) :
    Calls Tryz.prog 3 args w fun e w' => Below w.heap.size w w' ∧ e = .returned (.bool true) := h7.law MemoryStores_20_6_run ha w hT
theorem MemoryStores_20_7_run : isBool true (runW h7.K 3 [ai (Int.ofNat 20), ai (Int.ofNat 7)] s0) = true := by kernel_rfl
theorem MemoryStores_20_7_law {args : Array Value} (ha : VAs (fun _ => none) [ai (Int.ofNat 20), ai (Int.ofNat 7)] args.toList) (w : World) (hT : Tab w) :
    Calls Tryz.prog 3 args w fun e w' => Below w.heap.size w w' ∧ e = .returned (.bool true) := h7.law MemoryStores_20_7_run ha w hT
theorem MemoryStores_20_8_run : isBool true (runW h7.K 3 [ai (Int.ofNat 20), ai (Int.ofNat 8)] s0) = true := by kernel_rfl
theorem MemoryStores_20_8_law {args : Array Value} (ha : VAs (fun _ => none) [ai (Int.ofNat 20), ai (Int.ofNat 8)] args.toList) (w : World) (hT : Tab w) :
    Calls Tryz.prog 3 args w fun e w' => Below w.heap.size w w' ∧ e = .returned (.bool true) := h7.law MemoryStores_20_8_run ha w hT
theorem MemoryStores_20_9_run : isBool true (runW h7.K 3 [ai (Int.ofNat 20), ai (Int.ofNat 9)] s0) = true := by kernel_rfl
theorem MemoryStores_20_9_law {args : Array Value} (ha : VAs (fun _ => none) [ai (Int.ofNat 20), ai (Int.ofNat 9)] args.toList) (w : World) (hT : Tab w) :
    Calls Tryz.prog 3 args w fun e w' => Below w.heap.size w w' ∧ e = .returned (.bool true) := h7.law MemoryStores_20_9_run ha w hT
theorem MemoryStores_20_10_run : isBool true (runW h7.K 3 [ai (Int.ofNat 20), ai (Int.ofNat 10)] s0) = true := by kernel_rfl
theorem MemoryStores_20_10_law {args : Array Value} (ha : VAs (fun _ => none) [ai (Int.ofNat 20), ai (Int.ofNat 10)] args.toList) (w : World) (hT : Tab w) :
    Calls Tryz.prog 3 args w fun e w' => Below w.heap.size w w' ∧ e = .returned (.bool true) := h7.law MemoryStores_20_10_run ha w hT
theorem MemoryStores_20_11_run : isBool true (runW h7.K 3 [ai (Int.ofNat 20), ai (Int.ofNat 11)] s0) = true := by kernel_rfl
theorem MemoryStores_20_11_law {args : Array Value} (ha : VAs (fun _ => none) [ai (Int.ofNat 20), ai (Int.ofNat 11)] args.toList) (w : World) (hT : Tab w) :
    Calls Tryz.prog 3 args w fun e w' => Below w.heap.size w w' ∧ e = .returned (.bool true) := h7.law MemoryStores_20_11_run ha w hT
theorem MemoryStores_20_12_run : isBool true (runW h7.K 3 [ai (Int.ofNat 20), ai (Int.ofNat 12)] s0) = true := by kernel_rfl
theorem MemoryStores_20_12_law {args : Array Value} (ha : VAs (fun _ => none) [ai (Int.ofNat 20), ai (Int.ofNat 12)] args.toList) (w : World) (hT : Tab w) :
    Calls Tryz.prog 3 args w fun e w' => Below w.heap.size w w' ∧ e = .returned (.bool true) := h7.law MemoryStores_20_12_run ha w hT
theorem MemoryStores_20_13_run : isBool true (runW h7.K 3 [ai (Int.ofNat 20), ai (Int.ofNat 13)] s0) = true := by kernel_rfl
theorem MemoryStores_20_13_law {args : Array Value} (ha : VAs (fun _ => none) [ai (Int.ofNat 20), ai (Int.ofNat 13)] args.toList) (w : World) (hT : Tab w) :
    Calls Tryz.prog 3 args w fun e w' => Below w.heap.size w w' ∧ e = .returned (.bool true) := h7.law MemoryStores_20_13_run ha w hT
theorem MemoryStores_20_14_run : isBool true (runW h7.K 3 [ai (Int.ofNat 20), ai (Int.ofNat 14)] s0) = true := by kernel_rfl
theorem MemoryStores_20_14_law {args : Array Value} (ha : VAs (fun _ => none) [ai (Int.ofNat 20), ai (Int.ofNat 14)] args.toList) (w : World) (hT : Tab w) :
    Calls Tryz.prog 3 args w fun e w' => Below w.heap.size w w' ∧ e = .returned (.bool true) := h7.law MemoryStores_20_14_run ha w hT
theorem MemoryStores_20_15_run : isBool true (runW h7.K 3 [ai (Int.ofNat 20), ai (Int.ofNat 15)] s0) = true := by kernel_rfl
theorem MemoryStores_20_15_law {args : Array Value} (ha : VAs (fun _ => none) [ai (Int.ofNat 20), ai (Int.ofNat 15)] args.toList) (w : World) (hT : Tab w) :
    Calls Tryz.prog 3 args w fun e w' => Below w.heap.size w w' ∧ e = .returned (.bool true) := h7.law MemoryStores_20_15_run ha w hT
theorem MemoryStores_20_16_run : isBool true (runW h7.K 3 [ai (Int.ofNat 20), ai (Int.ofNat 16)] s0) = true := by kernel_rfl
theorem MemoryStores_20_16_law {args : Array Value} (ha : VAs (fun _ => none) [ai (Int.ofNat 20), ai (Int.ofNat 16)] args.toList) (w : World) (hT : Tab w) :
    Calls Tryz.prog 3 args w fun e w' => Below w.heap.size w w' ∧ e = .returned (.bool true) := h7.law MemoryStores_20_16_run ha w hT
theorem MemoryStores_20_17_run : isBool true (runW h7.K 3 [ai (Int.ofNat 20), ai (Int.ofNat 17)] s0) = true := by kernel_rfl
theorem MemoryStores_20_17_law {args : Array Value} (ha : VAs (fun _ => none) [ai (Int.ofNat 20), ai (Int.ofNat 17)] args.toList) (w : World) (hT : Tab w) :
    Calls Tryz.prog 3 args w fun e w' => Below w.heap.size w w' ∧ e = .returned (.bool true) := h7.law MemoryStores_20_17_run ha w hT
theorem MemoryStores_20_18_run : isBool true (runW h7.K 3 [ai (Int.ofNat 20), ai (Int.ofNat 18)] s0) = true := by kernel_rfl
theorem MemoryStores_20_18_law {args : Array Value} (ha : VAs (fun _ => none) [ai (Int.ofNat 20), ai (Int.ofNat 18)] args.toList) (w : World) (hT : Tab w) :
    Calls Tryz.prog 3 args w fun e w' => Below w.heap.size w w' ∧ e = .returned (.bool true) := h7.law MemoryStores_20_18_run ha w hT
theorem MemoryStores_20_19_run : isBool true (runW h7.K 3 [ai (Int.ofNat 20), ai (Int.ofNat 19)] s0) = true := by kernel_rfl
theorem MemoryStores_20_19_law {args : Array Value} (ha : VAs (fun _ => none) [ai (Int.ofNat 20), ai (Int.ofNat 19)] args.toList) (w : World) (hT : Tab w) :
    Calls Tryz.prog 3 args w fun e w' => Below w.heap.size w w' ∧ e = .returned (.bool true) := h7.law MemoryStores_20_19_run ha w hT
theorem MemoryStores_20_20_run : isBool true (runW h7.K 3 [ai (Int.ofNat 20), ai (Int.ofNat 20)] s0) = true := by kernel_rfl
theorem MemoryStores_20_20_law {args : Array Value} (ha : VAs (fun _ => none) [ai (Int.ofNat 20), ai (Int.ofNat 20)] args.toList) (w : World) (hT : Tab w) :
    Calls Tryz.prog 3 args w fun e w' => Below w.heap.size w w' ∧ e = .returned (.bool true) := h7.law MemoryStores_20_20_run ha w hT
theorem MemoryStores_20_neg (j : Nat) : isBool true (runW hkT 3 [ai (Int.ofNat 20), ai (Int.negSucc j)] s0) = true := by kernel_rfl
theorem MemoryStores_20_big (j : Nat) : isBool true (runW hkT 3 [ai (Int.ofNat 20), ai (Int.ofNat (j + 21))] s0) = true := by kernel_rfl
theorem MemoryStores_20_all (w : World) (hT : Tab w) (m : Int) : Calls Tryz.prog 3 #[.int .i64 (Int.ofNat 20), .int .i64 m] w fun e w' => Below w.heap.size w w' ∧ e = .returned (.bool true) := by
  rcases m with m | k
  · by_cases h : 21 ≤ m
    · obtain ⟨k, rfl⟩ : ∃ k, m = k + 21 := ⟨m - 21, by omega⟩
      exact lawT (MemoryStores_20_big k) (by exact ⟨rfl, rfl, trivial⟩) w hT
    · rcases (by omega : m = 0 ∨ m = 1 ∨ m = 2 ∨ m = 3 ∨ m = 4 ∨ m = 5 ∨ m = 6 ∨ m = 7 ∨ m = 8 ∨ m = 9 ∨ m = 10 ∨ m = 11 ∨ m = 12 ∨ m = 13 ∨ m = 14 ∨ m = 15 ∨ m = 16 ∨ m = 17 ∨ m = 18 ∨ m = 19 ∨ m = 20) with rfl | rfl | rfl | rfl | rfl | rfl | rfl | rfl | rfl | rfl | rfl | rfl | rfl | rfl | rfl | rfl | rfl | rfl | rfl | rfl | rfl
      · exact MemoryStores_20_0_law (by exact ⟨rfl, rfl, trivial⟩) w hT
      · exact MemoryStores_20_1_law (by exact ⟨rfl, rfl, trivial⟩) w hT
      · exact MemoryStores_20_2_law (by exact ⟨rfl, rfl, trivial⟩) w hT
      · exact MemoryStores_20_3_law (by exact ⟨rfl, rfl, trivial⟩) w hT
      · exact MemoryStores_20_4_law (by exact ⟨rfl, rfl, trivial⟩) w hT
      · exact MemoryStores_20_5_law (by exact ⟨rfl, rfl, trivial⟩) w hT
      · exact MemoryStores_20_6_law (by exact ⟨rfl, rfl, trivial⟩) w hT
      · exact MemoryStores_20_7_law (by exact ⟨rfl, rfl, trivial⟩) w hT
      · exact MemoryStores_20_8_law (by exact ⟨rfl, rfl, trivial⟩) w hT
      · exact MemoryStores_20_9_law (by exact ⟨rfl, rfl, trivial⟩) w hT
      · exact MemoryStores_20_10_law (by exact ⟨rfl, rfl, trivial⟩) w hT
      · exact MemoryStores_20_11_law (by exact ⟨rfl, rfl, trivial⟩) w hT
      · exact MemoryStores_20_12_law (by exact ⟨rfl, rfl, trivial⟩) w hT
      · exact MemoryStores_20_13_law (by exact ⟨rfl, rfl, trivial⟩) w hT
      · exact MemoryStores_20_14_law (by exact ⟨rfl, rfl, trivial⟩) w hT
      · exact MemoryStores_20_15_law (by exact ⟨rfl, rfl, trivial⟩) w hT
      · exact MemoryStores_20_16_law (by exact ⟨rfl, rfl, trivial⟩) w hT
      · exact MemoryStores_20_17_law (by exact ⟨rfl, rfl, trivial⟩) w hT
      · exact MemoryStores_20_18_law (by exact ⟨rfl, rfl, trivial⟩) w hT
      · exact MemoryStores_20_19_law (by exact ⟨rfl, rfl, trivial⟩) w hT
      · exact MemoryStores_20_20_law (by exact ⟨rfl, rfl, trivial⟩) w hT
  · exact lawT (MemoryStores_20_neg k) (by exact ⟨rfl, rfl, trivial⟩) w hT
end Go.Proofs.YtjbnkokcbhfdgabGreatDoor
