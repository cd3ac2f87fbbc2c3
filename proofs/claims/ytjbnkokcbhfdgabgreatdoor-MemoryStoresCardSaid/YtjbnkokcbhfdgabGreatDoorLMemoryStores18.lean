/- Tables of calls, and a run that uses them. -/
import Derived.Test.YtjbnkokcbhfdgabGreatDoorLn22
namespace Go.Proofs.YtjbnkokcbhfdgabGreatDoor
open Go Go.RowKit Ev
set_option maxRecDepth 100000
set_option linter.unusedVariables false
private noncomputable abbrev i (n : Nat) : CV := .int .i64 (.ofNat n)
private noncomputable abbrev o (b a n : Nat) : CV := .slice b a n (.opn 0)
private noncomputable abbrev f (b a n : Nat) : CV := .slice b a n (.fix n)
private noncomputable abbrev e (k t : Nat) : Nat × BK := (k, ⟨[.snil], t, 0, none⟩)
private noncomputable abbrev l0 : Bls := [(0, ⟨[.snil, i 0, i 0], 89, 0, none⟩),
(3, ⟨[o 47 0 20, i 3, i 0, i 0, i 0], 41, 0, none⟩),
(4, ⟨[i 0, o 9 0 2, f 3 0 1], 38, 0, none⟩),
(5, ⟨[f 7 0 1, f 0 0 1, .snil, .snil, f 4 0 1, i 0], 34, 0, none⟩),
(6, ⟨[i 0, i 0, i 0, i 0], 26, 0, none⟩),
(7, ⟨[f 6 0 2], 27, 0, none⟩),
(9, ⟨[i 0, i 0, i 1, i 0], 26, 2, none⟩),
(47, ⟨[i 1, i 0, i 0, i 0, i 7, .snil, i 5, i 1, i 0, i 0, i 0, .snil, i 8, i 0, i 1, i 0, i 0, .snil, i 8, i 0, i 1, i 0, i 1, .snil, i 8, i 0, i 1, i 0, i 0, .snil, i 8, i 0, i 1, i 0, i 1, .snil, i 8, i 0, i 1, i 0, i 0, .snil, i 8, i 0, i 1, i 0, i 1, .snil, i 8, i 0, i 1, i 0, i 0, .snil, i 8, i 0, i 1, i 0, i 1, .snil, i 8, i 0, i 1, i 0, i 0, .snil, i 8, i 0, i 1, i 0, i 1, .snil, i 8, i 0, i 1, i 0, i 0, .snil, i 8, i 0, i 1, i 0, i 1, .snil, i 8, i 0, i 1, i 0, i 0, .snil, i 8, i 0, i 1, i 0, i 1, .snil, i 8, i 0, i 1, i 0, i 0, .snil, i 8, i 0, i 1, i 0, i 1, .snil, i 8, i 0, i 1, i 0, i 0, .snil, i 8, i 0, i 1, i 0, i 1, .snil], 44, 6, none⟩)]
private noncomputable abbrev l1 : Bls := [(48, ⟨[o 56 0 1, o 60 0 1, o 123 0 1, o 114 0 1, o 116 0 1, i 5], 150, 0, none⟩),
(54, ⟨[i 0, i 1], 3, 1, none⟩),
(56, ⟨[o 54 0 2], 42, 1, none⟩),
(60, ⟨[i 2], 3, 1, none⟩),
(114, ⟨[i 1], 3, 1, none⟩),
(116, ⟨[i 0], 3, 1, none⟩),
(121, ⟨[i 3, i 4], 3, 1, none⟩),
(123, ⟨[o 121 0 2], 42, 1, none⟩),
(219, ⟨[o 229 0 5], 157, 0, none⟩),
(229, ⟨[i 0, i 1, i 2, i 3, i 4], 3, 1, none⟩),
(230, ⟨[.snil, .snil, .snil, .snil, .snil], 162, 0, none⟩),
(231, ⟨[o 282 0 1], 99, 0, none⟩),
(232, ⟨[], 0, 0, some (.map [] 0)⟩),
(233, ⟨[], 0, 0, some (.map [] 1)⟩),
(234, ⟨[.snil, o 678 0 0, .map 233, i 1], 161, 0, none⟩),
(235, ⟨[.ptr 5 0, .ptr 48 0, .ptr 219 0, o 274 0 5, o 277 0 5, o 280 0 5, f 230 0 5, .ptr 231 0, .map 232, .ptr 234 0], 105, 0, none⟩),
e 236 99,
e 239 99,
e 242 99,
(245, ⟨[o 676 0 1], 99, 0, none⟩),
e 251 99,
e 254 99,
e 257 99,
e 260 99,
e 263 99,
e 266 99,
e 269 99,
e 272 99,
(274, ⟨[.ptr 236 0, .ptr 245 0, .ptr 254 0, .ptr 263 0, .ptr 272 0], 96, 1, none⟩),
e 275 99,
(277, ⟨[.ptr 239 0, .ptr 831 0, .ptr 257 0, .ptr 266 0, .ptr 275 0], 96, 1, none⟩),
e 278 99,
(280, ⟨[.ptr 242 0, .ptr 251 0, .ptr 260 0, .ptr 269 0, .ptr 278 0], 96, 1, none⟩),
(282, ⟨[.int .u64 (.ofNat 1)], 229, 1, none⟩),
(676, ⟨[.int .u64 (.ofNat 1)], 229, 1, none⟩),
(678, ⟨[i 0], 3, 1, none⟩),
(830, ⟨[.int .u64 (.ofNat 1)], 229, 1, none⟩),
(831, ⟨[o 830 0 1], 99, 0, none⟩)]
private noncomputable abbrev l2 : Bls := [(834, ⟨[.ptr 5 0, .ptr 235 0, o 1467 0 21, o 964 0 1], 178, 0, none⟩),
(837, ⟨[i 0, f 839 0 21], 258, 0, none⟩),
(839, ⟨[.snil, o 845 0 1, o 851 0 1, o 857 0 1, o 863 0 1, o 869 0 1, o 875 0 1, o 881 0 1, o 887 0 1, o 893 0 1, o 899 0 1, o 905 0 1, o 911 0 1, o 917 0 1, o 923 0 1, o 929 0 1, o 935 0 1, o 941 0 1, o 947 0 1, o 953 0 1, o 959 0 1], 42, 0, none⟩),
(845, ⟨[i 0], 3, 1, none⟩),
(851, ⟨[i 1], 3, 1, none⟩),
(857, ⟨[i 2], 3, 1, none⟩),
(863, ⟨[i 3], 3, 1, none⟩),
(869, ⟨[i 4], 3, 1, none⟩),
(875, ⟨[i 5], 3, 1, none⟩),
(881, ⟨[i 6], 3, 1, none⟩),
(887, ⟨[i 7], 3, 1, none⟩),
(893, ⟨[i 8], 3, 1, none⟩),
(899, ⟨[i 9], 3, 1, none⟩),
(905, ⟨[i 10], 3, 1, none⟩),
(911, ⟨[i 11], 3, 1, none⟩),
(917, ⟨[i 12], 3, 1, none⟩),
(923, ⟨[i 13], 3, 1, none⟩),
(929, ⟨[i 14], 3, 1, none⟩),
(935, ⟨[i 15], 3, 1, none⟩),
(941, ⟨[i 16], 3, 1, none⟩),
(947, ⟨[i 17], 3, 1, none⟩),
(953, ⟨[i 18], 3, 1, none⟩),
(959, ⟨[i 19], 3, 1, none⟩),
(964, ⟨[.ptr 837 0], 179, 1, none⟩),
(1008, ⟨[], 0, 0, some (.map [] 0)⟩),
(1021, ⟨[], 0, 0, some (.map [(0, .agg [i 1, i 0], .c (.bool true)), (1, .agg [i 1, i 1], .c (.bool true))] 2)⟩),
(1043, ⟨[], 0, 0, some (.map [(0, .agg [i 1, i 0], .c (.bool true))] 1)⟩),
(1066, ⟨[], 0, 0, some (.map [(0, .agg [i 1, i 1], .c (.bool true))] 1)⟩),
(1089, ⟨[], 0, 0, some (.map [(0, .agg [i 1, i 0], .c (.bool true))] 1)⟩),
(1112, ⟨[], 0, 0, some (.map [(0, .agg [i 1, i 1], .c (.bool true))] 1)⟩),
(1135, ⟨[], 0, 0, some (.map [(0, .agg [i 1, i 0], .c (.bool true))] 1)⟩),
(1158, ⟨[], 0, 0, some (.map [(0, .agg [i 1, i 1], .c (.bool true))] 1)⟩),
(1181, ⟨[], 0, 0, some (.map [(0, .agg [i 1, i 0], .c (.bool true))] 1)⟩),
(1204, ⟨[], 0, 0, some (.map [(0, .agg [i 1, i 1], .c (.bool true))] 1)⟩),
(1227, ⟨[], 0, 0, some (.map [(0, .agg [i 1, i 0], .c (.bool true))] 1)⟩),
(1250, ⟨[], 0, 0, some (.map [(0, .agg [i 1, i 1], .c (.bool true))] 1)⟩),
(1273, ⟨[], 0, 0, some (.map [(0, .agg [i 1, i 0], .c (.bool true))] 1)⟩),
(1296, ⟨[], 0, 0, some (.map [(0, .agg [i 1, i 1], .c (.bool true))] 1)⟩),
(1319, ⟨[], 0, 0, some (.map [(0, .agg [i 1, i 0], .c (.bool true))] 1)⟩),
(1342, ⟨[], 0, 0, some (.map [(0, .agg [i 1, i 1], .c (.bool true))] 1)⟩),
(1365, ⟨[], 0, 0, some (.map [(0, .agg [i 1, i 0], .c (.bool true))] 1)⟩),
(1388, ⟨[], 0, 0, some (.map [(0, .agg [i 1, i 1], .c (.bool true))] 1)⟩),
(1411, ⟨[], 0, 0, some (.map [(0, .agg [i 1, i 0], .c (.bool true))] 1)⟩),
(1434, ⟨[], 0, 0, some (.map [(0, .agg [i 1, i 1], .c (.bool true))] 1)⟩),
(1457, ⟨[], 0, 0, some (.map [] 0)⟩),
(1467, ⟨[.map 1008, .map 1021, .map 1043, .map 1066, .map 1089, .map 1112, .map 1135, .map 1158, .map 1181, .map 1204, .map 1227, .map 1250, .map 1273, .map 1296, .map 1319, .map 1342, .map 1365, .map 1388, .map 1411, .map 1434, .map 1457], 181, 1, none⟩)]
private noncomputable abbrev l3 : Bls := [(0, ⟨[.snil, i 0, i 0], 89, 0, none⟩),
(3, ⟨[o 47 0 20, i 3, i 0, i 0, i 0], 41, 0, none⟩),
(4, ⟨[i 0, o 9 0 2, f 3 0 1], 38, 0, none⟩),
(5, ⟨[f 7 0 1, f 0 0 1, .snil, .snil, f 4 0 1, i 0], 34, 0, none⟩),
(6, ⟨[i 0, i 0, i 0, i 0], 26, 0, none⟩),
(7, ⟨[f 6 0 2], 27, 0, none⟩),
(9, ⟨[i 0, i 0, i 1, i 0], 26, 2, none⟩),
(47, ⟨[i 1, i 0, i 0, i 0, i 7, .snil, i 5, i 1, i 0, i 0, i 0, .snil, i 8, i 0, i 1, i 0, i 0, .snil, i 8, i 0, i 1, i 0, i 1, .snil, i 8, i 0, i 1, i 0, i 0, .snil, i 8, i 0, i 1, i 0, i 1, .snil, i 8, i 0, i 1, i 0, i 0, .snil, i 8, i 0, i 1, i 0, i 1, .snil, i 8, i 0, i 1, i 0, i 0, .snil, i 8, i 0, i 1, i 0, i 1, .snil, i 8, i 0, i 1, i 0, i 0, .snil, i 8, i 0, i 1, i 0, i 1, .snil, i 8, i 0, i 1, i 0, i 0, .snil, i 8, i 0, i 1, i 0, i 1, .snil, i 8, i 0, i 1, i 0, i 0, .snil, i 8, i 0, i 1, i 0, i 1, .snil, i 8, i 0, i 1, i 0, i 0, .snil, i 8, i 0, i 1, i 0, i 1, .snil, i 8, i 0, i 1, i 0, i 0, .snil, i 8, i 0, i 1, i 0, i 1, .snil], 44, 6, none⟩),
(48, ⟨[o 56 0 1, o 60 0 1, o 123 0 1, o 114 0 1, o 116 0 1, i 5], 150, 0, none⟩),
(54, ⟨[i 0, i 1], 3, 1, none⟩),
(56, ⟨[o 54 0 2], 42, 1, none⟩),
(60, ⟨[i 2], 3, 1, none⟩),
(114, ⟨[i 1], 3, 1, none⟩),
(116, ⟨[i 0], 3, 1, none⟩),
(121, ⟨[i 3, i 4], 3, 1, none⟩),
(123, ⟨[o 121 0 2], 42, 1, none⟩),
(219, ⟨[o 229 0 5], 157, 0, none⟩),
(229, ⟨[i 0, i 1, i 2, i 3, i 4], 3, 1, none⟩),
(230, ⟨[.snil, .snil, .snil, .snil, .snil], 162, 0, none⟩),
(231, ⟨[o 282 0 1], 99, 0, none⟩),
(232, ⟨[], 0, 0, some (.map [] 0)⟩),
(233, ⟨[], 0, 0, some (.map [] 1)⟩),
(234, ⟨[.snil, o 678 0 0, .map 233, i 1], 161, 0, none⟩),
(235, ⟨[.ptr 5 0, .ptr 48 0, .ptr 219 0, o 274 0 5, o 277 0 5, o 280 0 5, f 230 0 5, .ptr 231 0, .map 232, .ptr 234 0], 105, 0, none⟩),
e 236 99,
e 239 99,
e 242 99,
(245, ⟨[o 676 0 1], 99, 0, none⟩),
e 251 99,
e 254 99,
e 257 99,
e 260 99,
e 263 99,
e 266 99,
e 269 99,
e 272 99,
(274, ⟨[.ptr 236 0, .ptr 245 0, .ptr 254 0, .ptr 263 0, .ptr 272 0], 96, 1, none⟩),
e 275 99,
(277, ⟨[.ptr 239 0, .ptr 831 0, .ptr 257 0, .ptr 266 0, .ptr 275 0], 96, 1, none⟩),
e 278 99,
(280, ⟨[.ptr 242 0, .ptr 251 0, .ptr 260 0, .ptr 269 0, .ptr 278 0], 96, 1, none⟩),
(282, ⟨[.int .u64 (.ofNat 1)], 229, 1, none⟩),
(676, ⟨[.int .u64 (.ofNat 1)], 229, 1, none⟩),
(678, ⟨[i 0], 3, 1, none⟩),
(830, ⟨[.int .u64 (.ofNat 1)], 229, 1, none⟩),
(831, ⟨[o 830 0 1], 99, 0, none⟩)]
private noncomputable def m0 : MM := ⟨[56], l0, 48, [⟨56, 0, [.v (.c (.ptr 5 0))], .v (.c (.nili))⟩]⟩
private theorem m0_k : H0.tbl m0 = true := by kernel_rfl
private noncomputable def h1 : HK := H0.memo m0 m0_k
private noncomputable def m1 : MM := ⟨[91], [(3, ⟨[o 47 0 20, i 3, i 0, i 0, i 0], 41, 0, none⟩),
(4, ⟨[i 0, o 9 0 2, f 3 0 1], 38, 0, none⟩),
(5, ⟨[f 7 0 1, f 0 0 1, .snil, .snil, f 4 0 1, i 0], 34, 0, none⟩)], 105, [⟨91, 0, [.v (.c (.ptr 5 0)), .v (.c (i 0))], .tup [.agg [i 0, i 0, i 0], .c (.bool true)]⟩,
⟨91, 1, [.v (.c (.ptr 5 0)), .v (.c (i 1))], .tup [.agg [i 0, i 0, i 1], .c (.bool true)]⟩,
⟨91, 2, [.v (.c (.ptr 5 0)), .v (.c (i 2))], .tup [.agg [i 0, i 0, i 2], .c (.bool true)]⟩,
⟨91, 3, [.v (.c (.ptr 5 0)), .v (.c (i 3))], .tup [.agg [i 0, i 0, i 3], .c (.bool true)]⟩,
⟨91, 4, [.v (.c (.ptr 5 0)), .v (.c (i 4))], .tup [.agg [i 0, i 0, i 4], .c (.bool true)]⟩,
⟨91, 5, [.v (.c (.ptr 5 0)), .v (.c (i 5))], .tup [.agg [i 0, i 0, i 5], .c (.bool true)]⟩,
⟨91, 6, [.v (.c (.ptr 5 0)), .v (.c (i 6))], .tup [.agg [i 0, i 0, i 6], .c (.bool true)]⟩,
⟨91, 7, [.v (.c (.ptr 5 0)), .v (.c (i 7))], .tup [.agg [i 0, i 0, i 7], .c (.bool true)]⟩,
⟨91, 8, [.v (.c (.ptr 5 0)), .v (.c (i 8))], .tup [.agg [i 0, i 0, i 8], .c (.bool true)]⟩,
⟨91, 9, [.v (.c (.ptr 5 0)), .v (.c (i 9))], .tup [.agg [i 0, i 0, i 9], .c (.bool true)]⟩,
⟨91, 10, [.v (.c (.ptr 5 0)), .v (.c (i 10))], .tup [.agg [i 0, i 0, i 10], .c (.bool true)]⟩,
⟨91, 11, [.v (.c (.ptr 5 0)), .v (.c (i 11))], .tup [.agg [i 0, i 0, i 11], .c (.bool true)]⟩,
⟨91, 12, [.v (.c (.ptr 5 0)), .v (.c (i 12))], .tup [.agg [i 0, i 0, i 12], .c (.bool true)]⟩,
⟨91, 13, [.v (.c (.ptr 5 0)), .v (.c (i 13))], .tup [.agg [i 0, i 0, i 13], .c (.bool true)]⟩,
⟨91, 14, [.v (.c (.ptr 5 0)), .v (.c (i 14))], .tup [.agg [i 0, i 0, i 14], .c (.bool true)]⟩,
⟨91, 15, [.v (.c (.ptr 5 0)), .v (.c (i 15))], .tup [.agg [i 0, i 0, i 15], .c (.bool true)]⟩,
⟨91, 16, [.v (.c (.ptr 5 0)), .v (.c (i 16))], .tup [.agg [i 0, i 0, i 16], .c (.bool true)]⟩,
⟨91, 17, [.v (.c (.ptr 5 0)), .v (.c (i 17))], .tup [.agg [i 0, i 0, i 17], .c (.bool true)]⟩,
⟨91, 18, [.v (.c (.ptr 5 0)), .v (.c (i 18))], .tup [.agg [i 0, i 0, i 18], .c (.bool true)]⟩,
⟨91, 19, [.v (.c (.ptr 5 0)), .v (.c (i 19))], .tup [.agg [i 0, i 0, i 19], .c (.bool true)]⟩,
⟨91, 20, [.v (.c (.ptr 5 0)), .v (.c (i 20))], .tup [.agg [i 0, i 0, i 20], .c (.bool true)]⟩]⟩
private theorem m1_k : h1.tbl m1 = true := by kernel_rfl
private noncomputable def h2 : HK := h1.memo m1 m1_k
private noncomputable def s1 : RE := ⟨35, [.v (.c (.ptr 5 0))], 48, .v (.c (.ptr 48 0)), [(48, ⟨[o 56 0 1, o 60 0 1, o 123 0 1, o 114 0 1, o 116 0 1, i 5], 150, 0, none⟩),
(54, ⟨[i 0, i 1], 3, 1, none⟩),
(56, ⟨[o 54 0 2], 42, 1, none⟩),
(60, ⟨[i 2], 3, 1, none⟩),
(114, ⟨[i 1], 3, 1, none⟩),
(116, ⟨[i 0], 3, 1, none⟩),
(121, ⟨[i 3, i 4], 3, 1, none⟩),
(123, ⟨[o 121 0 2], 42, 1, none⟩)], 219⟩
private theorem s1_k : h2.srp l0 s1 = true := by kernel_rfl
private noncomputable def h3 : HK := h2.srep _ s1 s1_k
private noncomputable def s2 : RE := ⟨75, [.v (.c (.ptr 5 0))], 455, .v (.c (o 496 0 21)), [(496, ⟨[i 0, i 0, i 0, i 0, i 0, i 1, i 0, i 0, i 2, i 0, i 0, i 3, i 0, i 0, i 4, i 0, i 0, i 5, i 0, i 0, i 6, i 0, i 0, i 7, i 0, i 0, i 8, i 0, i 0, i 9, i 0, i 0, i 10, i 0, i 0, i 11, i 0, i 0, i 12, i 0, i 0, i 13, i 0, i 0, i 14, i 0, i 0, i 15, i 0, i 0, i 16, i 0, i 0, i 17, i 0, i 0, i 18, i 0, i 0, i 19, i 0, i 0, i 20], 138, 3, none⟩)], 497⟩
private theorem s2_k : h3.srp l0 s2 = true := by kernel_rfl
private noncomputable def h4 : HK := h3.srep _ s2 s2_k
private noncomputable def s3 : RE := ⟨9, [.v (.c (.ptr 5 0)), .v (.c (.snil))], 48, .v (.c (.ptr 235 0)), l1, 832⟩
private theorem s3_k : h4.rep l0 s3 = true := by kernel_rfl
private noncomputable def h5 : HK := h4.repl _ s3 s3_k
private noncomputable def s4 : RE := ⟨43, [.v (.c (.ptr 5 0)), .v (.c (.ptr 235 0))], 834, .v (.c (.ptr 834 0)), l2, 1468⟩
private theorem s4_k : h5.srp l3 s4 = true := by kernel_rfl
private noncomputable def h6 : HK := h5.srep _ s4 s4_k
private noncomputable def s5 : RE := ⟨11, [.v (.c (.ptr 5 0)), .v (.c (.ptr 235 0)), .v (.c (i 0))], 2124, .v (.c (o 2467 0 2)), [(2467, ⟨[i 1, i 0, i 1, i 1, i 0, i 0, i 0, i 0, i 0, i 0, i 0, i 0, i 0, i 0, i 0, i 0, i 0, i 0, i 0, i 0, i 0, i 0, i 0, i 0, i 0, i 0, i 0, i 0, i 0, i 0, i 0, i 0, i 0, i 0, i 0, i 0, i 0, i 0, i 0, i 0], 48, 2, none⟩)], 2761⟩
private theorem s5_k : h6.srp l3 s5 = true := by kernel_rfl
private noncomputable def h7 : HK := h6.srep _ s5 s5_k
theorem MemoryStores_18_0_run : isBool true (runW h7.K 3 [ai (Int.ofNat 18), ai (Int.ofNat 0)] s0) = true := by kernel_rfl
theorem MemoryStores_18_0_law {args : Array Value} (ha : VAs (fun _ => none) [ai (Int.ofNat 18), ai (Int.ofNat 0)] args.toList) (w : World) (hT : Tab w) :
    Calls Tryz.prog 3 args w fun e w' => Below w.heap.size w w' ∧ e = .returned (.bool true) := h7.law MemoryStores_18_0_run ha w hT
theorem MemoryStores_18_1_run : isBool true (runW h7.K 3 [ai (Int.ofNat 18), ai (Int.ofNat 1)] s0) = true := by kernel_rfl
theorem MemoryStores_18_1_law {args : Array Value} (ha : VAs (fun _ => none) [ai (Int.ofNat 18), ai (Int.ofNat 1)] args.toList) (w : World) (hT : Tab w) :
    Calls Tryz.prog 3 args w fun e w' => Below w.heap.size w w' ∧ e = .returned (.bool true) := h7.law MemoryStores_18_1_run ha w hT
theorem MemoryStores_18_2_run : isBool true (runW h7.K 3 [ai (Int.ofNat 18), ai (Int.ofNat 2)] s0) = true := by kernel_rfl
theorem MemoryStores_18_2_law {args : Array Value} (ha : VAs (fun _ => none) [ai (Int.ofNat 18), ai (Int.ofNat 2)] args.toList) (w : World) (hT : Tab w) :
    Calls Tryz.prog 3 args w fun e w' => Below w.heap.size w w' ∧ e = .returned (.bool true) := h7.law MemoryStores_18_2_run ha w hT
theorem MemoryStores_18_3_run : isBool true (runW h7.K 3 [ai (Int.ofNat 18), ai (Int.ofNat 3)] s0) = true := by kernel_rfl
theorem MemoryStores_18_3_law {args : Array Value} (ha : VAs (fun _ => none) [ai (Int.ofNat 18), ai (Int.ofNat 3)] args.toList) (w : World) (hT : Tab w) :
    Calls Tryz.prog 3 args w fun e w' => Below w.heap.size w w' ∧ e = .returned (.bool true) := h7.law MemoryStores_18_3_run ha w hT
theorem MemoryStores_18_4_run : isBool true (runW h7.K 3 [ai (Int.ofNat 18), ai (Int.ofNat 4)] s0) = true := by kernel_rfl
theorem MemoryStores_18_4_law {args : Array Value} (ha : VAs (fun _ => none) [ai (Int.ofNat 18), ai (Int.ofNat 4)] args.toList) (w : World) (hT : Tab w) :
    Calls Tryz.prog 3 args w fun e w' => Below w.heap.size w w' ∧ e = .returned (.bool true) := h7.law MemoryStores_18_4_run ha w hT
theorem MemoryStores_18_5_run : isBool true (runW h7.K 3 [ai (Int.ofNat 18), ai (Int.ofNat 5)] s0) = true := by kernel_rfl
theorem MemoryStores_18_5_law {args : Array Value} (ha : VAs (fun _ => none) [ai (Int.ofNat 18), ai (Int.ofNat 5)] args.toList) (w : World) (hT : Tab w) :
    Calls Tryz.prog 3 args w fun e w' => Below w.heap.size w w' ∧ e = .returned (.bool true) := h7.law MemoryStores_18_5_run ha w hT
theorem MemoryStores_18_6_run : isBool true (runW h7.K 3 [ai (Int.ofNat 18), ai (Int.ofNat 6)] s0) = true := by kernel_rfl
theorem MemoryStores_18_6_law {args : Array Value} (ha : VAs (fun _ => none) [ai (Int.ofNat 18), ai (Int.ofNat 6)] args.toList) (w : World) (hT : Tab w) :
    Calls Tryz.prog 3 args w fun e w' => Below w.heap.size w w' ∧ e = .returned (.bool true) := h7.law MemoryStores_18_6_run ha w hT
theorem MemoryStores_18_7_run : isBool true (runW h7.K 3 [ai (Int.ofNat 18), ai (Int.ofNat 7)] s0) = true := by kernel_rfl
theorem MemoryStores_18_7_law {args : Array Value} (ha : VAs (fun _ => none) [ai (Int.ofNat 18), ai (Int.ofNat 7)] args.toList) (w : World) (hT : Tab w) :
    Calls Tryz.prog 3 args w fun e w' => Below w.heap.size w w' ∧ e = .returned (.bool true) := h7.law MemoryStores_18_7_run ha w hT
theorem MemoryStores_18_8_run : isBool true (runW h7.K 3 [ai (Int.ofNat 18), ai (Int.ofNat 8)] s0) = true := by kernel_rfl
theorem MemoryStores_18_8_law {args : Array Value} (ha : VAs (fun _ => none) [ai (Int.ofNat 18), ai (Int.ofNat 8)] args.toList) (w : World) (hT : Tab w) :
    Calls Tryz.prog 3 args w fun e w' => Below w.heap.size w w' ∧ e = .returned (.bool true) := h7.law MemoryStores_18_8_run ha w hT
theorem MemoryStores_18_9_run : isBool true (runW h7.K 3 [ai (Int.ofNat 18), ai (Int.ofNat 9)] s0) = true := by kernel_rfl
theorem MemoryStores_18_9_law {args : Array Value} (ha : VAs (fun _ => none) [ai (Int.ofNat 18), ai (Int.ofNat 9)] args.toList) (w : World) (hT : Tab w) :
    Calls Tryz.prog 3 args w fun e w' => Below w.heap.size w w' ∧ e = .returned (.bool true) := h7.law MemoryStores_18_9_run ha w hT
theorem MemoryStores_18_10_run : isBool true (runW h7.K 3 [ai (Int.ofNat 18), ai (Int.ofNat 10)] s0) = true := by kernel_rfl
theorem MemoryStores_18_10_law {args : Array Value} (ha : VAs (fun _ => none) [ai (Int.ofNat 18), ai (Int.ofNat 10)] args.toList) (w : World) (hT : Tab w) :
    Calls Tryz.prog 3 args w fun e w' => Below w.heap.size w w' ∧ e = .returned (.bool true) := h7.law MemoryStores_18_10_run ha w hT
theorem MemoryStores_18_11_run : isBool true (runW h7.K 3 [ai (Int.ofNat 18), ai (Int.ofNat 11)] s0) = true := by kernel_rfl
theorem MemoryStores_18_11_law {args : Array Value} (ha : VAs (fun _ => none) [ai (Int.ofNat 18), ai (Int.ofNat 11)] args.toList) (w : World) (hT : Tab w) :
    Calls Tryz.prog 3 args w fun e w' => Below w.heap.size w w' ∧ e = .returned (.bool true) := h7.law MemoryStores_18_11_run ha w hT
theorem MemoryStores_18_12_run : isBool true (runW h7.K 3 [ai (Int.ofNat 18), ai (Int.ofNat 12)] s0) = true := by kernel_rfl
theorem MemoryStores_18_12_law {args : Array Value} (ha : VAs (fun _ => none) [ai (Int.ofNat 18), ai (Int.ofNat 12)] args.toList) (w : World) (hT : Tab w) :
    Calls Tryz.prog 3 args w fun e w' => Below w.heap.size w w' ∧ e = .returned (.bool true) := h7.law MemoryStores_18_12_run ha w hT
theorem MemoryStores_18_13_run : isBool true (runW h7.K 3 [ai (Int.ofNat 18), ai (Int.ofNat 13)] s0) = true := by kernel_rfl
theorem MemoryStores_18_13_law {args : Array Value} (ha : VAs (fun _ => none) [ai (Int.ofNat 18), ai (Int.ofNat 13)] args.toList) (w : World) (hT : Tab w) :
    Calls Tryz.prog 3 args w fun e w' => Below w.heap.size w w' ∧ e = .returned (.bool true) := h7.law MemoryStores_18_13_run ha w hT
theorem MemoryStores_18_14_run : isBool true (runW h7.K 3 [ai (Int.ofNat 18), ai (Int.ofNat 14)] s0) = true := by kernel_rfl
theorem MemoryStores_18_14_law {args : Array Value} (ha : VAs (fun _ => none) [ai (Int.ofNat 18), ai (Int.ofNat 14)] args.toList) (w : World) (hT : Tab w) :
    Calls Tryz.prog 3 args w fun e w' => Below w.heap.size w w' ∧ e = .returned (.bool true) := h7.law MemoryStores_18_14_run ha w hT
theorem MemoryStores_18_15_run : isBool true (runW h7.K 3 [ai (Int.ofNat 18), ai (Int.ofNat 15)] s0) = true := by kernel_rfl
theorem MemoryStores_18_15_law {args : Array Value} (ha : VAs (fun _ => none) [ai (Int.ofNat 18), ai (Int.ofNat 15)] args.toList) (w : World) (hT : Tab w) :
    Calls Tryz.prog 3 args w fun e w' => Below w.heap.size w w' ∧ e = .returned (.bool true) := h7.law MemoryStores_18_15_run ha w hT
theorem MemoryStores_18_16_run : isBool true (runW h7.K 3 [ai (Int.ofNat 18), ai (Int.ofNat 16)] s0) = true := by kernel_rfl
theorem MemoryStores_18_16_law {args : Array Value} (ha : VAs (fun _ => none) [ai (Int.ofNat 18), ai (Int.ofNat 16)] args.toList) (w : World) (hT : Tab w) :
    Calls Tryz.prog 3 args w fun e w' => Below w.heap.size w w' ∧ e = .returned (.bool true) := h7.law MemoryStores_18_16_run ha w hT
theorem MemoryStores_18_17_run : isBool true (runW h7.K 3 [ai (Int.ofNat 18), ai (Int.ofNat 17)] s0) = true := by kernel_rfl
theorem MemoryStores_18_17_law {args : Array Value} (ha : VAs (fun _ => none) [ai (Int.ofNat 18), ai (Int.ofNat 17)] args.toList) (w : World) (hT : Tab w) :
    Calls Tryz.prog 3 args w fun e w' => Below w.heap.size w w' ∧ e = .returned (.bool true) := h7.law MemoryStores_18_17_run ha w hT
theorem MemoryStores_18_18_run : isBool true (runW h7.K 3 [ai (Int.ofNat 18), ai (Int.ofNat 18)] s0) = true := by kernel_rfl
theorem MemoryStores_18_18_law {args : Array Value} (ha : VAs (fun _ => none) [ai (Int.ofNat 18), ai (Int.ofNat 18)] args.toList) (w : World) (hT : Tab w) :
    Calls Tryz.prog 3 args w fun e w' => Below w.heap.size w w' ∧ e = .returned (.bool true) := h7.law MemoryStores_18_18_run ha w hT
theorem MemoryStores_18_neg (j : Nat) : isBool true (runW hkT 3 [ai (Int.ofNat 18), ai (Int.negSucc j)] s0) = true := by kernel_rfl
theorem MemoryStores_18_big (j : Nat) : isBool true (runW hkT 3 [ai (Int.ofNat 18), ai (Int.ofNat (j + 19))] s0) = true := by kernel_rfl
theorem MemoryStores_18_all (w : World) (hT : Tab w) (m : Int) : Calls Tryz.prog 3 #[.int .i64 (Int.ofNat 18), .int .i64 m] w fun e w' => Below w.heap.size w w' ∧ e = .returned (.bool true) := by
  rcases m with m | k
  · by_cases h : 19 ≤ m
    · obtain ⟨k, rfl⟩ : ∃ k, m = k + 19 := ⟨m - 19, by omega⟩
      exact lawT (MemoryStores_18_big k) (by exact ⟨rfl, rfl, trivial⟩) w hT
    · rcases (by omega : m = 0 ∨ m = 1 ∨ m = 2 ∨ m = 3 ∨ m = 4 ∨ m = 5 ∨ m = 6 ∨ m = 7 ∨ m = 8 ∨ m = 9 ∨ m = 10 ∨ m = 11 ∨ m = 12 ∨ m = 13 ∨ m = 14 ∨ m = 15 ∨ m = 16 ∨ m = 17 ∨ m = 18) with rfl | rfl | rfl | rfl | rfl | rfl | rfl | rfl | rfl | rfl | rfl | rfl | rfl | rfl | rfl | rfl | rfl | rfl | rfl
      · exact MemoryStores_18_0_law (by exact ⟨rfl, rfl, trivial⟩) w hT
      · exact MemoryStores_18_1_law (by exact ⟨rfl, rfl, trivial⟩) w hT
      · exact MemoryStores_18_2_law (by exact ⟨rfl, rfl, trivial⟩) w hT
      · exact MemoryStores_18_3_law (by exact ⟨rfl, rfl, trivial⟩) w hT
      · exact MemoryStores_18_4_law (by exact ⟨rfl, rfl, trivial⟩) w hT
      · exact MemoryStores_18_5_law (by exact ⟨rfl, rfl, trivial⟩) w hT
      · exact MemoryStores_18_6_law (by exact ⟨rfl, rfl, trivial⟩) w hT
      · exact MemoryStores_18_7_law (by exact ⟨rfl, rfl, trivial⟩) w hT
      · exact MemoryStores_18_8_law (by exact ⟨rfl, rfl, trivial⟩) w hT
      · exact MemoryStores_18_9_law (by exact ⟨rfl, rfl, trivial⟩) w hT
      · exact MemoryStores_18_10_law (by exact ⟨rfl, rfl, trivial⟩) w hT
      · exact MemoryStores_18_11_law (by exact ⟨rfl, rfl, trivial⟩) w hT
      · exact MemoryStores_18_12_law (by exact ⟨rfl, rfl, trivial⟩) w hT
      · exact MemoryStores_18_13_law (by exact ⟨rfl, rfl, trivial⟩) w hT
      · exact MemoryStores_18_14_law (by exact ⟨rfl, rfl, trivial⟩) w hT
      · exact MemoryStores_18_15_law (by exact ⟨rfl, rfl, trivial⟩) w hT
      · exact MemoryStores_18_16_law (by exact ⟨rfl, rfl, trivial⟩) w hT
      · exact MemoryStores_18_17_law (by exact ⟨rfl, rfl, trivial⟩) w hT
      · exact MemoryStores_18_18_law (by exact ⟨rfl, rfl, trivial⟩) w hT
  · exact lawT (MemoryStores_18_neg k) (by exact ⟨rfl, rfl, trivial⟩) w hT
end Go.Proofs.YtjbnkokcbhfdgabGreatDoor
