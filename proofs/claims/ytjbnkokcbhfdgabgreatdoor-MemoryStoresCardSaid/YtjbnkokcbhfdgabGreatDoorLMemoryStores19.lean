/- Tables of calls, and a run that uses them. -/
import Derived.Test.YtjbnkokcbhfdgabGreatDoorLn22
namespace Go.Proofs.YtjbnkokcbhfdgabGreatDoor
open Go Go.RowKit Ev
set_option maxRecDepth 100000
set_option linter.unusedVariables false
private noncomputable abbrev i (n : Nat) : CV := .int .i64 (.ofNat n)
private noncomputable abbrev o (b a n : Nat) : CV := .slice b a n (.opn 0)
private noncomputable abbrev f (b a n : Nat) : CV := .slice b a n (.fix n)
private noncomputable abbrev e (k t : Nat) : Nat × BK := (k, ⟨[.snil], t, 0, none⟩)
private noncomputable abbrev l0 : Bls := [(0, ⟨[.snil, i 0, i 0], 89, 0, none⟩),
(3, ⟨[o 49 0 21, i 3, i 0, i 0, i 0], 41, 0, none⟩),
(4, ⟨[i 0, o 9 0 2, f 3 0 1], 38, 0, none⟩),
(5, ⟨[f 7 0 1, f 0 0 1, .snil, .snil, f 4 0 1, i 0], 34, 0, none⟩),
(6, ⟨[i 0, i 0, i 0, i 0], 26, 0, none⟩),
(7, ⟨[f 6 0 2], 27, 0, none⟩),
(9, ⟨[i 0, i 0, i 1, i 0], 26, 2, none⟩),
(49, ⟨[i 1, i 0, i 0, i 0, i 7, .snil, i 5, i 1, i 0, i 0, i 0, .snil, i 8, i 0, i 1, i 0, i 0, .snil, i 8, i 0, i 1, i 0, i 1, .snil, i 8, i 0, i 1, i 0, i 0, .snil, i 8, i 0, i 1, i 0, i 1, .snil, i 8, i 0, i 1, i 0, i 0, .snil, i 8, i 0, i 1, i 0, i 1, .snil, i 8, i 0, i 1, i 0, i 0, .snil, i 8, i 0, i 1, i 0, i 1, .snil, i 8, i 0, i 1, i 0, i 0, .snil, i 8, i 0, i 1, i 0, i 1, .snil, i 8, i 0, i 1, i 0, i 0, .snil, i 8, i 0, i 1, i 0, i 1, .snil, i 8, i 0, i 1, i 0, i 0, .snil, i 8, i 0, i 1, i 0, i 1, .snil, i 8, i 0, i 1, i 0, i 0, .snil, i 8, i 0, i 1, i 0, i 1, .snil, i 8, i 0, i 1, i 0, i 0, .snil, i 8, i 0, i 1, i 0, i 1, .snil, i 8, i 0, i 1, i 0, i 0, .snil], 44, 6, none⟩)]
private noncomputable abbrev l1 : Bls := [(50, ⟨[o 58 0 1, o 62 0 1, o 127 0 1, o 118 0 1, o 120 0 1, i 5], 150, 0, none⟩),
(56, ⟨[i 0, i 1], 3, 1, none⟩),
(58, ⟨[o 56 0 2], 42, 1, none⟩),
(62, ⟨[i 2], 3, 1, none⟩),
(118, ⟨[i 1], 3, 1, none⟩),
(120, ⟨[i 0], 3, 1, none⟩),
(125, ⟨[i 3, i 4], 3, 1, none⟩),
(127, ⟨[o 125 0 2], 42, 1, none⟩),
(228, ⟨[o 238 0 5], 157, 0, none⟩),
(238, ⟨[i 0, i 1, i 2, i 3, i 4], 3, 1, none⟩),
(239, ⟨[.snil, .snil, .snil, .snil, .snil], 162, 0, none⟩),
(240, ⟨[o 291 0 1], 99, 0, none⟩),
(241, ⟨[], 0, 0, some (.map [] 0)⟩),
(242, ⟨[], 0, 0, some (.map [] 1)⟩),
(243, ⟨[.snil, o 704 0 0, .map 242, i 1], 161, 0, none⟩),
(244, ⟨[.ptr 5 0, .ptr 50 0, .ptr 228 0, o 283 0 5, o 286 0 5, o 289 0 5, f 239 0 5, .ptr 240 0, .map 241, .ptr 243 0], 105, 0, none⟩),
e 245 99,
e 248 99,
e 251 99,
(254, ⟨[o 702 0 1], 99, 0, none⟩),
e 260 99,
e 263 99,
e 266 99,
e 269 99,
e 272 99,
e 275 99,
e 278 99,
e 281 99,
(283, ⟨[.ptr 245 0, .ptr 254 0, .ptr 263 0, .ptr 272 0, .ptr 281 0], 96, 1, none⟩),
e 284 99,
(286, ⟨[.ptr 248 0, .ptr 864 0, .ptr 266 0, .ptr 275 0, .ptr 284 0], 96, 1, none⟩),
e 287 99,
(289, ⟨[.ptr 251 0, .ptr 260 0, .ptr 269 0, .ptr 278 0, .ptr 287 0], 96, 1, none⟩),
(291, ⟨[.int .u64 (.ofNat 1)], 229, 1, none⟩),
(702, ⟨[.int .u64 (.ofNat 1)], 229, 1, none⟩),
(704, ⟨[i 0], 3, 1, none⟩),
(863, ⟨[.int .u64 (.ofNat 1)], 229, 1, none⟩),
(864, ⟨[o 863 0 1], 99, 0, none⟩)]
private noncomputable abbrev l2 : Bls := [(867, ⟨[.ptr 5 0, .ptr 244 0, o 1531 0 22, o 1003 0 1], 178, 0, none⟩),
(870, ⟨[i 0, f 872 0 22], 258, 0, none⟩),
(872, ⟨[.snil, o 878 0 1, o 884 0 1, o 890 0 1, o 896 0 1, o 902 0 1, o 908 0 1, o 914 0 1, o 920 0 1, o 926 0 1, o 932 0 1, o 938 0 1, o 944 0 1, o 950 0 1, o 956 0 1, o 962 0 1, o 968 0 1, o 974 0 1, o 980 0 1, o 986 0 1, o 992 0 1, o 998 0 1], 42, 0, none⟩),
(878, ⟨[i 0], 3, 1, none⟩),
(884, ⟨[i 1], 3, 1, none⟩),
(890, ⟨[i 2], 3, 1, none⟩),
(896, ⟨[i 3], 3, 1, none⟩),
(902, ⟨[i 4], 3, 1, none⟩),
(908, ⟨[i 5], 3, 1, none⟩),
(914, ⟨[i 6], 3, 1, none⟩),
(920, ⟨[i 7], 3, 1, none⟩),
(926, ⟨[i 8], 3, 1, none⟩),
(932, ⟨[i 9], 3, 1, none⟩),
(938, ⟨[i 10], 3, 1, none⟩),
(944, ⟨[i 11], 3, 1, none⟩),
(950, ⟨[i 12], 3, 1, none⟩),
(956, ⟨[i 13], 3, 1, none⟩),
(962, ⟨[i 14], 3, 1, none⟩),
(968, ⟨[i 15], 3, 1, none⟩),
(974, ⟨[i 16], 3, 1, none⟩),
(980, ⟨[i 17], 3, 1, none⟩),
(986, ⟨[i 18], 3, 1, none⟩),
(992, ⟨[i 19], 3, 1, none⟩),
(998, ⟨[i 20], 3, 1, none⟩),
(1003, ⟨[.ptr 870 0], 179, 1, none⟩),
(1049, ⟨[], 0, 0, some (.map [] 0)⟩),
(1062, ⟨[], 0, 0, some (.map [(0, .agg [i 1, i 0], .c (.bool true)), (1, .agg [i 1, i 1], .c (.bool true))] 2)⟩),
(1084, ⟨[], 0, 0, some (.map [(0, .agg [i 1, i 0], .c (.bool true))] 1)⟩),
(1107, ⟨[], 0, 0, some (.map [(0, .agg [i 1, i 1], .c (.bool true))] 1)⟩),
(1130, ⟨[], 0, 0, some (.map [(0, .agg [i 1, i 0], .c (.bool true))] 1)⟩),
(1153, ⟨[], 0, 0, some (.map [(0, .agg [i 1, i 1], .c (.bool true))] 1)⟩),
(1176, ⟨[], 0, 0, some (.map [(0, .agg [i 1, i 0], .c (.bool true))] 1)⟩),
(1199, ⟨[], 0, 0, some (.map [(0, .agg [i 1, i 1], .c (.bool true))] 1)⟩),
(1222, ⟨[], 0, 0, some (.map [(0, .agg [i 1, i 0], .c (.bool true))] 1)⟩),
(1245, ⟨[], 0, 0, some (.map [(0, .agg [i 1, i 1], .c (.bool true))] 1)⟩),
(1268, ⟨[], 0, 0, some (.map [(0, .agg [i 1, i 0], .c (.bool true))] 1)⟩),
(1291, ⟨[], 0, 0, some (.map [(0, .agg [i 1, i 1], .c (.bool true))] 1)⟩),
(1314, ⟨[], 0, 0, some (.map [(0, .agg [i 1, i 0], .c (.bool true))] 1)⟩),
(1337, ⟨[], 0, 0, some (.map [(0, .agg [i 1, i 1], .c (.bool true))] 1)⟩),
(1360, ⟨[], 0, 0, some (.map [(0, .agg [i 1, i 0], .c (.bool true))] 1)⟩),
(1383, ⟨[], 0, 0, some (.map [(0, .agg [i 1, i 1], .c (.bool true))] 1)⟩),
(1406, ⟨[], 0, 0, some (.map [(0, .agg [i 1, i 0], .c (.bool true))] 1)⟩),
(1429, ⟨[], 0, 0, some (.map [(0, .agg [i 1, i 1], .c (.bool true))] 1)⟩),
(1452, ⟨[], 0, 0, some (.map [(0, .agg [i 1, i 0], .c (.bool true))] 1)⟩),
(1475, ⟨[], 0, 0, some (.map [(0, .agg [i 1, i 1], .c (.bool true))] 1)⟩),
(1498, ⟨[], 0, 0, some (.map [(0, .agg [i 1, i 0], .c (.bool true))] 1)⟩),
(1521, ⟨[], 0, 0, some (.map [] 0)⟩),
(1531, ⟨[.map 1049, .map 1062, .map 1084, .map 1107, .map 1130, .map 1153, .map 1176, .map 1199, .map 1222, .map 1245, .map 1268, .map 1291, .map 1314, .map 1337, .map 1360, .map 1383, .map 1406, .map 1429, .map 1452, .map 1475, .map 1498, .map 1521], 181, 1, none⟩)]
private noncomputable abbrev l3 : Bls := [(0, ⟨[.snil, i 0, i 0], 89, 0, none⟩),
(3, ⟨[o 49 0 21, i 3, i 0, i 0, i 0], 41, 0, none⟩),
(4, ⟨[i 0, o 9 0 2, f 3 0 1], 38, 0, none⟩),
(5, ⟨[f 7 0 1, f 0 0 1, .snil, .snil, f 4 0 1, i 0], 34, 0, none⟩),
(6, ⟨[i 0, i 0, i 0, i 0], 26, 0, none⟩),
(7, ⟨[f 6 0 2], 27, 0, none⟩),
(9, ⟨[i 0, i 0, i 1, i 0], 26, 2, none⟩),
(49, ⟨[i 1, i 0, i 0, i 0, i 7, .snil, i 5, i 1, i 0, i 0, i 0, .snil, i 8, i 0, i 1, i 0, i 0, .snil, i 8, i 0, i 1, i 0, i 1, .snil, i 8, i 0, i 1, i 0, i 0, .snil, i 8, i 0, i 1, i 0, i 1, .snil, i 8, i 0, i 1, i 0, i 0, .snil, i 8, i 0, i 1, i 0, i 1, .snil, i 8, i 0, i 1, i 0, i 0, .snil, i 8, i 0, i 1, i 0, i 1, .snil, i 8, i 0, i 1, i 0, i 0, .snil, i 8, i 0, i 1, i 0, i 1, .snil, i 8, i 0, i 1, i 0, i 0, .snil, i 8, i 0, i 1, i 0, i 1, .snil, i 8, i 0, i 1, i 0, i 0, .snil, i 8, i 0, i 1, i 0, i 1, .snil, i 8, i 0, i 1, i 0, i 0, .snil, i 8, i 0, i 1, i 0, i 1, .snil, i 8, i 0, i 1, i 0, i 0, .snil, i 8, i 0, i 1, i 0, i 1, .snil, i 8, i 0, i 1, i 0, i 0, .snil], 44, 6, none⟩),
(50, ⟨[o 58 0 1, o 62 0 1, o 127 0 1, o 118 0 1, o 120 0 1, i 5], 150, 0, none⟩),
(56, ⟨[i 0, i 1], 3, 1, none⟩),
(58, ⟨[o 56 0 2], 42, 1, none⟩),
(62, ⟨[i 2], 3, 1, none⟩),
(118, ⟨[i 1], 3, 1, none⟩),
(120, ⟨[i 0], 3, 1, none⟩),
(125, ⟨[i 3, i 4], 3, 1, none⟩),
(127, ⟨[o 125 0 2], 42, 1, none⟩),
(228, ⟨[o 238 0 5], 157, 0, none⟩),
(238, ⟨[i 0, i 1, i 2, i 3, i 4], 3, 1, none⟩),
(239, ⟨[.snil, .snil, .snil, .snil, .snil], 162, 0, none⟩),
(240, ⟨[o 291 0 1], 99, 0, none⟩),
(241, ⟨[], 0, 0, some (.map [] 0)⟩),
(242, ⟨[], 0, 0, some (.map [] 1)⟩),
(243, ⟨[.snil, o 704 0 0, .map 242, i 1], 161, 0, none⟩),
(244, ⟨[.ptr 5 0, .ptr 50 0, .ptr 228 0, o 283 0 5, o 286 0 5, o 289 0 5, f 239 0 5, .ptr 240 0, .map 241, .ptr 243 0], 105, 0, none⟩),
e 245 99,
e 248 99,
e 251 99,
(254, ⟨[o 702 0 1], 99, 0, none⟩),
e 260 99,
e 263 99,
e 266 99,
e 269 99,
e 272 99,
e 275 99,
e 278 99,
e 281 99,
(283, ⟨[.ptr 245 0, .ptr 254 0, .ptr 263 0, .ptr 272 0, .ptr 281 0], 96, 1, none⟩),
e 284 99,
(286, ⟨[.ptr 248 0, .ptr 864 0, .ptr 266 0, .ptr 275 0, .ptr 284 0], 96, 1, none⟩),
e 287 99,
(289, ⟨[.ptr 251 0, .ptr 260 0, .ptr 269 0, .ptr 278 0, .ptr 287 0], 96, 1, none⟩),
(291, ⟨[.int .u64 (.ofNat 1)], 229, 1, none⟩),
(702, ⟨[.int .u64 (.ofNat 1)], 229, 1, none⟩),
(704, ⟨[i 0], 3, 1, none⟩),
(863, ⟨[.int .u64 (.ofNat 1)], 229, 1, none⟩),
(864, ⟨[o 863 0 1], 99, 0, none⟩)]
private noncomputable def m0 : MM := ⟨[56], l0, 50, [⟨56, 0, [.v (.c (.ptr 5 0))], .v (.c (.nili))⟩]⟩
private theorem m0_k : H0.tbl m0 = true := by kernel_rfl
private noncomputable def h1 : HK := H0.memo m0 m0_k
private noncomputable def m1 : MM := ⟨[91], [(3, ⟨[o 49 0 21, i 3, i 0, i 0, i 0], 41, 0, none⟩),
(4, ⟨[i 0, o 9 0 2, f 3 0 1], 38, 0, none⟩),
(5, ⟨[f 7 0 1, f 0 0 1, .snil, .snil, f 4 0 1, i 0], 34, 0, none⟩)], 109, [⟨91, 0, [.v (.c (.ptr 5 0)), .v (.c (i 0))], .tup [.agg [i 0, i 0, i 0], .c (.bool true)]⟩,
⟨91, 1, [.v (.c (.ptr 5 0)), .v (.c (i 1))], .tup [.agg [i 0, i 0, i 1], .c (.bool true)]⟩,
⟨91, 2, [.v (.c (.ptr 5 0)), .v (.c (i 2))], .tup [.agg [i 0, i 0, i 2], .c (.bool true)]⟩,
⟨91, 3, [.v (.c (.ptr 5 0)), .v (.c (i 3))], .tup [.agg [i 0, i 0, i 3], .c (.bool true)]⟩,
⟨91, 4, [.v (.c (.ptr 5 0)), .v (.c (i 4))], .tup [.agg [i 0, i 0, i 4], .c (.bool true)]⟩,
⟨91, 5, [.v (.c (.ptr 5 0)), .v (.c (i 5))], .tup [.agg [i 0, i 0, i 5], .c (.bool true)]⟩,
⟨91, 6, [.v (.c (.ptr 5 0)), .v (.c (i 6))], .tup [.agg [i 0, i 0, i 6], .c (.bool true)]⟩,
⟨91, 7, [.v (.c (.ptr 5 0)), .v (.c (i 7))], .tup [.agg [i 0, i 0, i 7], .c (.bool true)]⟩,
⟨91, 8, [.v (.c (.ptr 5 0)), .v (.c (i 8))], .tup [.agg [i 0, i 0, i 8], .c (.bool true)]⟩,
⟨91, 9, [.v (.c (.ptr 5 0)), .v (.c (i 9))], .tup [.agg [i 0, i 0, i 9], .c (.bool true)]⟩,
⟨91, 10, [.v (.c (.ptr 5 0)), .v (.c (i 10))], .tup [.agg [i 0, i 0, i 10], .c (.bool true)]⟩,
⟨91, 11, [.v (.c (.ptr 5 0)), .v (.c (i 11))], .tup [.agg [i 0, i 0, i 11], .c (.bool true)]⟩,
⟨91, 12, [.v (.c (.ptr 5 0)), .v (.c (i 12))], .tup [.agg [i 0, i 0, i 12], .c (.bool true)]⟩,
⟨91, 13, [.v (.c (.ptr 5 0)), .v (.c (i 13))], .tup [.agg [i 0, i 0, i 13], .c (.bool true)]⟩,
⟨91, 14, [.v (.c (.ptr 5 0)), .v (.c (i 14))], .tup [.agg [i 0, i 0, i 14], .c (.bool true)]⟩,
⟨91, 15, [.v (.c (.ptr 5 0)), .v (.c (i 15))], .tup [.agg [i 0, i 0, i 15], .c (.bool true)]⟩,
⟨91, 16, [.v (.c (.ptr 5 0)), .v (.c (i 16))], .tup [.agg [i 0, i 0, i 16], .c (.bool true)]⟩,
⟨91, 17, [.v (.c (.ptr 5 0)), .v (.c (i 17))], .tup [.agg [i 0, i 0, i 17], .c (.bool true)]⟩,
⟨91, 18, [.v (.c (.ptr 5 0)), .v (.c (i 18))], .tup [.agg [i 0, i 0, i 18], .c (.bool true)]⟩,
⟨91, 19, [.v (.c (.ptr 5 0)), .v (.c (i 19))], .tup [.agg [i 0, i 0, i 19], .c (.bool true)]⟩,
⟨91, 20, [.v (.c (.ptr 5 0)), .v (.c (i 20))], .tup [.agg [i 0, i 0, i 20], .c (.bool true)]⟩,
⟨91, 21, [.v (.c (.ptr 5 0)), .v (.c (i 21))], .tup [.agg [i 0, i 0, i 21], .c (.bool true)]⟩]⟩
private theorem m1_k : h1.tbl m1 = true := by kernel_rfl
private noncomputable def h2 : HK := h1.memo m1 m1_k
private noncomputable def s1 : RE := ⟨35, [.v (.c (.ptr 5 0))], 50, .v (.c (.ptr 50 0)), [(50, ⟨[o 58 0 1, o 62 0 1, o 127 0 1, o 118 0 1, o 120 0 1, i 5], 150, 0, none⟩),
(56, ⟨[i 0, i 1], 3, 1, none⟩),
(58, ⟨[o 56 0 2], 42, 1, none⟩),
(62, ⟨[i 2], 3, 1, none⟩),
(118, ⟨[i 1], 3, 1, none⟩),
(120, ⟨[i 0], 3, 1, none⟩),
(125, ⟨[i 3, i 4], 3, 1, none⟩),
(127, ⟨[o 125 0 2], 42, 1, none⟩)], 228⟩
private theorem s1_k : h2.srp l0 s1 = true := by kernel_rfl
private noncomputable def h3 : HK := h2.srep _ s1 s1_k
private noncomputable def s2 : RE := ⟨75, [.v (.c (.ptr 5 0))], 471, .v (.c (o 514 0 22)), [(514, ⟨[i 0, i 0, i 0, i 0, i 0, i 1, i 0, i 0, i 2, i 0, i 0, i 3, i 0, i 0, i 4, i 0, i 0, i 5, i 0, i 0, i 6, i 0, i 0, i 7, i 0, i 0, i 8, i 0, i 0, i 9, i 0, i 0, i 10, i 0, i 0, i 11, i 0, i 0, i 12, i 0, i 0, i 13, i 0, i 0, i 14, i 0, i 0, i 15, i 0, i 0, i 16, i 0, i 0, i 17, i 0, i 0, i 18, i 0, i 0, i 19, i 0, i 0, i 20, i 0, i 0, i 21], 138, 3, none⟩)], 515⟩
private theorem s2_k : h3.srp l0 s2 = true := by kernel_rfl
private noncomputable def h4 : HK := h3.srep _ s2 s2_k
private noncomputable def s3 : RE := ⟨9, [.v (.c (.ptr 5 0)), .v (.c (.snil))], 50, .v (.c (.ptr 244 0)), l1, 865⟩
private theorem s3_k : h4.rep l0 s3 = true := by kernel_rfl
private noncomputable def h5 : HK := h4.repl _ s3 s3_k
private noncomputable def s4 : RE := ⟨43, [.v (.c (.ptr 5 0)), .v (.c (.ptr 244 0))], 867, .v (.c (.ptr 867 0)), l2, 1532⟩
private theorem s4_k : h5.srp l3 s4 = true := by kernel_rfl
private noncomputable def h6 : HK := h5.srep _ s4 s4_k
private noncomputable def s5 : RE := ⟨11, [.v (.c (.ptr 5 0)), .v (.c (.ptr 244 0)), .v (.c (i 0))], 2219, .v (.c (o 2579 0 2)), [(2579, ⟨[i 1, i 0, i 1, i 1, i 0, i 0, i 0, i 0, i 0, i 0, i 0, i 0, i 0, i 0, i 0, i 0, i 0, i 0, i 0, i 0, i 0, i 0, i 0, i 0, i 0, i 0, i 0, i 0, i 0, i 0, i 0, i 0, i 0, i 0, i 0, i 0, i 0, i 0, i 0, i 0, i 0, i 0], 48, 2, none⟩)], 2883⟩
private theorem s5_k : h6.srp l3 s5 = true := by kernel_rfl
private noncomputable def h7 : HK := h6.srep _ s5 s5_k
theorem MemoryStores_19_0_run : isBool true (runW h7.K 3 [ai (Int.ofNat 19), ai (Int.ofNat 0)] s0) = true := by kernel_rfl
theorem MemoryStores_19_0_law {args : Array Value} (ha : VAs (fun _ => none) [ai (Int.ofNat 19), ai (Int.ofNat 0)] args.toList) (w : World) (hT : Tab w) :
    Calls Tryz.prog 3 args w fun e w' => Below w.heap.size w w' ∧ e = .returned (.bool true) := h7.law MemoryStores_19_0_run ha w hT
theorem MemoryStores_19_1_run : isBool true (runW h7.K 3 [ai (Int.ofNat 19), ai (Int.ofNat 1)] s0) = true := by kernel_rfl
theorem MemoryStores_19_1_law {args : Array Value} (ha : VAs (fun _ => none) [ai (Int.ofNat 19), ai (Int.ofNat 1)] args.toList) (w : World) (hT : Tab w) :
    Calls Tryz.prog 3 args w fun e w' => Below w.heap.size w w' ∧ e = .returned (.bool true) := h7.law MemoryStores_19_1_run ha w hT
theorem MemoryStores_19_2_run : isBool true (runW h7.K 3 [ai (Int.ofNat 19), ai (Int.ofNat 2)] s0) = true := by kernel_rfl
theorem MemoryStores_19_2_law {args : Array Value} (ha : VAs (fun _ => none) [ai (Int.ofNat 19), ai (Int.ofNat 2)] args.toList) (w : World) (hT : Tab w) :
    Calls Tryz.prog 3 args w fun e w' => Below w.heap.size w w' ∧ e = .returned (.bool true) := h7.law MemoryStores_19_2_run ha w hT
theorem MemoryStores_19_3_run : isBool true (runW h7.K 3 [ai (Int.ofNat 19), ai (Int.ofNat 3)] s0) = true := by kernel_rfl
theorem MemoryStores_19_3_law {args : Array Value} (ha : VAs (fun _ => none) [ai (Int.ofNat 19), ai (Int.ofNat 3)] args.toList) (w : World) (hT : Tab w) :
    Calls Tryz.prog 3 args w fun e w' => Below w.heap.size w w' ∧ e = .returned (.bool true) := h7.law MemoryStores_19_3_run ha w hT
theorem MemoryStores_19_4_run : isBool true (runW h7.K 3 [ai (Int.ofNat 19), ai (Int.ofNat 4)] s0) = true := by kernel_rfl
theorem MemoryStores_19_4_law {args : Array Value} (ha : VAs (fun _ => none) [ai (Int.ofNat 19), ai (Int.ofNat 4)] args.toList) (w : World) (hT : Tab w) :
    Calls Tryz.prog 3 args w fun e w' => Below w.heap.size w w' ∧ e = .returned (.bool true) := h7.law MemoryStores_19_4_run ha w hT
theorem MemoryStores_19_5_run : isBool true (runW h7.K 3 [ai (Int.ofNat 19), ai (Int.ofNat 5)] s0) = true := by kernel_rfl
theorem MemoryStores_19_5_law {args : Array Value} (ha : VAs (fun _ => none) [ai (Int.ofNat 19), ai (Int.ofNat 5)] args.toList) (w : World) (hT : Tab w) :
    Calls Tryz.prog 3 args w fun e w' => Below w.heap.size w w' ∧ e = .returned (.bool true) := h7.law MemoryStores_19_5_run ha w hT
theorem MemoryStores_19_6_run : isBool true (runW h7.K 3 [ai (Int.ofNat 19), ai (Int.ofNat 6)] s0) = true := by kernel_rfl
theorem MemoryStores_19_6_law {args : Array Value} (ha : VAs (fun _ => none) [ai (Int.ofNat 19), ai (Int.ofNat 6)] args.toList) (w : World) (hT : Tab w) :
    Calls Tryz.prog 3 args w fun e w' => Below w.heap.size w w' ∧ e = .returned (.bool true) := h7.law MemoryStores_19_6_run ha w hT
theorem MemoryStores_19_7_run : isBool true (runW h7.K 3 [ai (Int.ofNat 19), ai (Int.ofNat 7)] s0) = true := by kernel_rfl
theorem MemoryStores_19_7_law {args : Array Value} (ha : VAs (fun _ => none) [ai (Int.ofNat 19), ai (Int.ofNat 7)] args.toList) (w : World) (hT : Tab w) :
    Calls Tryz.prog 3 args w fun e w' => Below w.heap.size w w' ∧ e = .returned (.bool true) := h7.law MemoryStores_19_7_run ha w hT
theorem MemoryStores_19_8_run : isBool true (runW h7.K 3 [ai (Int.ofNat 19), ai (Int.ofNat 8)] s0) = true := by kernel_rfl
theorem MemoryStores_19_8_law {args : Array Value} (ha : VAs (fun _ => none) [ai (Int.ofNat 19), ai (Int.ofNat 8)] args.toList) (w : World) (hT : Tab w) :
    Calls Tryz.prog 3 args w fun e w' => Below w.heap.size w w' ∧ e = .returned (.bool true) := h7.law MemoryStores_19_8_run ha w hT
theorem MemoryStores_19_9_run : isBool true (runW h7.K 3 [ai (Int.ofNat 19), ai (Int.ofNat 9)] s0) = true := by kernel_rfl
theorem MemoryStores_19_9_law {args : Array Value} (ha : VAs (fun _ => none) [ai (Int.ofNat 19), ai (Int.ofNat 9)] args.toList) (w : World) (hT : Tab w) :
    Calls Tryz.prog 3 args w fun e w' => Below w.heap.size w w' ∧ e = .returned (.bool true) := h7.law MemoryStores_19_9_run ha w hT
theorem MemoryStores_19_10_run : isBool true (runW h7.K 3 [ai (Int.ofNat 19), ai (Int.ofNat 10)] s0) = true := by kernel_rfl
theorem MemoryStores_19_10_law {args : Array Value} (ha : VAs (fun _ => none) [ai (Int.ofNat 19), ai (Int.ofNat 10)] args.toList) (w : World) (hT : Tab w) :
    Calls Tryz.prog 3 args w fun e w' => Below w.heap.size w w' ∧ e = .returned (.bool true) := h7.law MemoryStores_19_10_run ha w hT
theorem MemoryStores_19_11_run : isBool true (runW h7.K 3 [ai (Int.ofNat 19), ai (Int.ofNat 11)] s0) = true := by kernel_rfl
theorem MemoryStores_19_11_law {args : Array Value} (ha : VAs (fun _ => none) [ai (Int.ofNat 19), ai (Int.ofNat 11)] args.toList) (w : World) (hT : Tab w) :
    Calls Tryz.prog 3 args w fun e w' => Below w.heap.size w w' ∧ e = .returned (.bool true) := h7.law MemoryStores_19_11_run ha w hT
theorem MemoryStores_19_12_run : isBool true (runW h7.K 3 [ai (Int.ofNat 19), ai (Int.ofNat 12)] s0) = true := by kernel_rfl
theorem MemoryStores_19_12_law {args : Array Value} (ha : VAs (fun _ => none) [ai (Int.ofNat 19), ai (Int.ofNat 12)] args.toList) (w : World) (hT : Tab w) :
    Calls Tryz.prog 3 args w fun e w' => Below w.heap.size w w' ∧ e = .returned (.bool true) := h7.law MemoryStores_19_12_run ha w hT
theorem MemoryStores_19_13_run : isBool true (runW h7.K 3 [ai (Int.ofNat 19), ai (Int.ofNat 13)] s0) = true := by kernel_rfl
theorem MemoryStores_19_13_law {args : Array Value} (ha : VAs (fun _ => none) [ai (Int.ofNat 19), ai (Int.ofNat 13)] args.toList) (w : World) (hT : Tab w) :
    Calls Tryz.prog 3 args w fun e w' => Below w.heap.size w w' ∧ e = .returned (.bool true) := h7.law MemoryStores_19_13_run ha w hT
theorem MemoryStores_19_14_run : isBool true (runW h7.K 3 [ai (Int.ofNat 19), ai (Int.ofNat 14)] s0) = true := by kernel_rfl
theorem MemoryStores_19_14_law {args : Array Value} (ha : VAs (fun _ => none) [ai (Int.ofNat 19), ai (Int.ofNat 14)] args.toList) (w : World) (hT : Tab w) :
    Calls Tryz.prog 3 args w fun e w' => Below w.heap.size w w' ∧ e = .returned (.bool true) := h7.law MemoryStores_19_14_run ha w hT
theorem MemoryStores_19_15_run : isBool true (runW h7.K 3 [ai (Int.ofNat 19), ai (Int.ofNat 15)] s0) = true := by kernel_rfl
theorem MemoryStores_19_15_law {args : Array Value} (ha : VAs (fun _ => none) [ai (Int.ofNat 19), ai (Int.ofNat 15)] args.toList) (w : World) (hT : Tab w) :
    Calls Tryz.prog 3 args w fun e w' => Below w.heap.size w w' ∧ e = .returned (.bool true) := h7.law MemoryStores_19_15_run ha w hT
theorem MemoryStores_19_16_run : isBool true (runW h7.K 3 [ai (Int.ofNat 19), ai (Int.ofNat 16)] s0) = true := by kernel_rfl
theorem MemoryStores_19_16_law {args : Array Value} (ha : VAs (fun _ => none) [ai (Int.ofNat 19), ai (Int.ofNat 16)] args.toList) (w : World) (hT : Tab w) :
    Calls Tryz.prog 3 args w fun e w' => Below w.heap.size w w' ∧ e = .returned (.bool true) := h7.law MemoryStores_19_16_run ha w hT
theorem MemoryStores_19_17_run : isBool true (runW h7.K 3 [ai (Int.ofNat 19), ai (Int.ofNat 17)] s0) = true := by kernel_rfl
theorem MemoryStores_19_17_law {args : Array Value} (ha : VAs (fun _ => none) [ai (Int.ofNat 19), ai (Int.ofNat 17)] args.toList) (w : World) (hT : Tab w) :
    Calls Tryz.prog 3 args w fun e w' => Below w.heap.size w w' ∧ e = .returned (.bool true) := h7.law MemoryStores_19_17_run ha w hT
theorem MemoryStores_19_18_run : isBool true (runW h7.K 3 [ai (Int.ofNat 19), ai (Int.ofNat 18)] s0) = true := by kernel_rfl
theorem MemoryStores_19_18_law {args : Array Value} (ha : VAs (fun _ => none) [ai (Int.ofNat 19), ai (Int.ofNat 18)] args.toList) (w : World) (hT : Tab w) :
    Calls Tryz.prog 3 args w fun e w' => Below w.heap.size w w' ∧ e = .returned (.bool true) := h7.law MemoryStores_19_18_run ha w hT
theorem MemoryStores_19_19_run : isBool true (runW h7.K 3 [ai (Int.ofNat 19), ai (Int.ofNat 19)] s0) = true := by kernel_rfl
theorem MemoryStores_19_19_law {args : Array Value} (ha : VAs (fun _ => none) [ai (Int.ofNat 19), ai (Int.ofNat 19)] args.toList) (w : World) (hT : Tab w) :
    Calls Tryz.prog 3 args w fun e w' => Below w.heap.size w w' ∧ e = .returned (.bool true) := h7.law MemoryStores_19_19_run ha w hT
theorem MemoryStores_19_neg (j : Nat) : isBool true (runW hkT 3 [ai (Int.ofNat 19), ai (Int.negSucc j)] s0) = true := by kernel_rfl
theorem MemoryStores_19_big (j : Nat) : isBool true (runW hkT 3 [ai (Int.ofNat 19), ai (Int.ofNat (j + 20))] s0) = true := by kernel_rfl
theorem MemoryStores_19_all (w : World) (hT : Tab w) (m : Int) : Calls Tryz.prog 3 #[.int .i64 (Int.ofNat 19), .int .i64 m] w fun e w' => Below w.heap.size w w' ∧ e = .returned (.bool true) := by
  rcases m with m | k
  · by_cases h : 20 ≤ m
    · obtain ⟨k, rfl⟩ : ∃ k, m = k + 20 := ⟨m - 20, by omega⟩
      exact lawT (MemoryStores_19_big k) (by exact ⟨rfl, rfl, trivial⟩) w hT
    · rcases (by omega : m = 0 ∨ m = 1 ∨ m = 2 ∨ m = 3 ∨ m = 4 ∨ m = 5 ∨ m = 6 ∨ m = 7 ∨ m = 8 ∨ m = 9 ∨ m = 10 ∨ m = 11 ∨ m = 12 ∨ m = 13 ∨ m = 14 ∨ m = 15 ∨ m = 16 ∨ m = 17 ∨ m = 18 ∨ m = 19) with rfl | rfl | rfl | rfl | rfl | rfl | rfl | rfl | rfl | rfl | rfl | rfl | rfl | rfl | rfl | rfl | rfl | rfl | rfl | rfl
      · exact MemoryStores_19_0_law (by exact ⟨rfl, rfl, trivial⟩) w hT
      · exact MemoryStores_19_1_law (by exact ⟨rfl, rfl, trivial⟩) w hT
      · exact MemoryStores_19_2_law (by exact ⟨rfl, rfl, trivial⟩) w hT
      · exact MemoryStores_19_3_law (by exact ⟨rfl, rfl, trivial⟩) w hT
      · exact MemoryStores_19_4_law (by exact ⟨rfl, rfl, trivial⟩) w hT
      · exact MemoryStores_19_5_law (by exact ⟨rfl, rfl, trivial⟩) w hT
      · exact MemoryStores_19_6_law (by exact ⟨rfl, rfl, trivial⟩) w hT
      · exact MemoryStores_19_7_law (by exact ⟨rfl, rfl, trivial⟩) w hT
      · exact MemoryStores_19_8_law (by exact ⟨rfl, rfl, trivial⟩) w hT
      · exact MemoryStores_19_9_law (by exact ⟨rfl, rfl, trivial⟩) w hT
      · exact MemoryStores_19_10_law (by exact ⟨rfl, rfl, trivial⟩) w hT
      · exact MemoryStores_19_11_law (by exact ⟨rfl, rfl, trivial⟩) w hT
      · exact MemoryStores_19_12_law (by exact ⟨rfl, rfl, trivial⟩) w hT
      · exact MemoryStores_19_13_law (by exact ⟨rfl, rfl, trivial⟩) w hT
      · exact MemoryStores_19_14_law (by exact ⟨rfl, rfl, trivial⟩) w hT
      · exact MemoryStores_19_15_law (by exact ⟨rfl, rfl, trivial⟩) w hT
      · exact MemoryStores_19_16_law (by exact ⟨rfl, rfl, trivial⟩) w hT
      · exact MemoryStores_19_17_law (by exact ⟨rfl, rfl, trivial⟩) w hT
      · exact MemoryStores_19_18_law (by exact ⟨rfl, rfl, trivial⟩) w hT
      · exact MemoryStores_19_19_law (by exact ⟨rfl, rfl, trivial⟩) w hT
  · exact lawT (MemoryStores_19_neg k) (by exact ⟨rfl, rfl, trivial⟩) w hT
end Go.Proofs.YtjbnkokcbhfdgabGreatDoor
