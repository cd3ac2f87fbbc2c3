/- Tables of calls, and a run that uses them. -/
import Derived.Test.YteajpblmbmncdaaGreatDoorLn
namespace Go.Proofs.YteajpblmbmncdaaGreatDoor
open Go Go.RowKit Ev
set_option maxRecDepth 100000
set_option linter.unusedVariables false
private noncomputable abbrev i (n : Nat) : CV := .int .i64 (.ofNat n)
private noncomputable abbrev o (b a n : Nat) : CV := .slice b a n (.opn 0)
private noncomputable abbrev f (b a n : Nat) : CV := .slice b a n (.fix n)
private noncomputable abbrev e (k t : Nat) : Nat × BK := (k, ⟨[.snil], t, 0, none⟩)
private noncomputable abbrev l0 : Bls := [(1, ⟨[i 0, i 0, i 0, i 0, i 1, i 0], 69, 0, none⟩),
(2, ⟨[f 1 0 3], 47, 0, none⟩),
(4, ⟨[i 1, i 0], 69, 0, none⟩),
(5, ⟨[i 0, i 0], 69, 0, none⟩),
(7, ⟨[i 1, i 0], 69, 0, none⟩),
(9, ⟨[.snil, i 0, i 0, f 4 0 1, i 0, i 0, f 5 0 1, i 0, i 0, f 7 0 1, i 1, i 0], 72, 0, none⟩),
(10, ⟨[i 0], 3, 0, none⟩),
(11, ⟨[f 10 0 1], 74, 0, none⟩),
(12, ⟨[f 2 0 1, f 9 0 4, f 11 0 1, .snil, o 50 0 3, i 0], 57, 0, none⟩),
(20, ⟨[i 0, i 0, i 1, i 0], 69, 2, none⟩),
(21, ⟨[o 30 0 3, i 3, i 0, i 0, i 0], 46, 0, none⟩),
(27, ⟨[i 1], 3, 0, none⟩),
(30, ⟨[i 1, i 0, i 0, i 0, i 1, .snil, i 5, i 1, i 0, i 0, i 0, .snil, i 12, i 0, i 0, i 0, i 1, f 27 0 1], 29, 6, none⟩),
(35, ⟨[i 1, i 0, i 0, i 0], 69, 2, none⟩),
(36, ⟨[o 42 0 1, i 3, i 1, i 0, i 0], 46, 0, none⟩),
(39, ⟨[i 0], 3, 0, none⟩),
(42, ⟨[i 12, i 1, i 0, i 0, i 2, f 39 0 1], 29, 6, none⟩),
(47, ⟨[i 1, i 0, i 0, i 0], 69, 2, none⟩),
(48, ⟨[o 53 0 1, i 3, i 1, i 0, i 0], 46, 0, none⟩),
(50, ⟨[i 0, o 20 0 2, f 21 0 1, i 1, o 35 0 2, f 36 0 1, i 1, o 47 0 2, f 48 0 1], 50, 3, none⟩),
(53, ⟨[i 7, i 1, i 0, i 0, i 0, .snil], 29, 6, none⟩)]
private noncomputable abbrev l1 : Bls := [(54, ⟨[o 86 0 3, o 90 0 3, o 129 0 1, o 118 0 1, o 120 0 1, i 12], 230, 0, none⟩),
(60, ⟨[i 0, i 1], 3, 1, none⟩),
(72, ⟨[i 3, i 4], 3, 1, none⟩),
(84, ⟨[i 6, i 7], 3, 1, none⟩),
(86, ⟨[o 60 0 2, o 72 0 2, o 84 0 2], 27, 1, none⟩),
(90, ⟨[i 2, i 5, i 8], 3, 1, none⟩),
(118, ⟨[i 1], 3, 1, none⟩),
(120, ⟨[i 0], 3, 1, none⟩),
(127, ⟨[i 9, i 10, i 11], 3, 1, none⟩),
(129, ⟨[o 127 0 3], 27, 1, none⟩)]
private noncomputable abbrev l2 : Bls := [(54, ⟨[o 86 0 3, o 90 0 3, o 129 0 1, o 118 0 1, o 120 0 1, i 12], 230, 0, none⟩),
(60, ⟨[i 0, i 1], 3, 1, none⟩),
(72, ⟨[i 3, i 4], 3, 1, none⟩),
(84, ⟨[i 6, i 7], 3, 1, none⟩),
(86, ⟨[o 60 0 2, o 72 0 2, o 84 0 2], 27, 1, none⟩),
(90, ⟨[i 2, i 5, i 8], 3, 1, none⟩),
(118, ⟨[i 1], 3, 1, none⟩),
(120, ⟨[i 0], 3, 1, none⟩),
(127, ⟨[i 9, i 10, i 11], 3, 1, none⟩),
(129, ⟨[o 127 0 3], 27, 1, none⟩),
(160, ⟨[o 184 0 12], 233, 0, none⟩),
(184, ⟨[i 0, i 1, i 2, i 3, i 4, i 5, i 6, i 7, i 8, i 9, i 10, i 11], 3, 1, none⟩),
(185, ⟨[.snil, .snil, .snil, .snil, .snil, .snil, .snil, .snil, .snil, .snil, .snil, .snil], 238, 0, none⟩),
(186, ⟨[o 300 0 1], 139, 0, none⟩),
(187, ⟨[], 0, 0, some (.map [(0, .agg [i 2, i 1], .c (.bool true)), (1, .agg [i 4, i 2], .c (.bool true))] 2)⟩),
(188, ⟨[], 0, 0, some (.map [] 3)⟩),
(189, ⟨[.snil, o 795 0 0, .map 188, i 3], 237, 0, none⟩),
(190, ⟨[.ptr 12 0, .ptr 54 0, .ptr 160 0, o 292 0 12, o 295 0 12, o 298 0 12, f 185 0 12, .ptr 186 0, .map 187, .ptr 189 0], 145, 0, none⟩),
e 191 139,
e 194 139,
e 197 139,
(200, ⟨[o 476 0 1], 139, 0, none⟩),
(206, ⟨[o 482 0 1], 139, 0, none⟩),
e 209 139,
e 212 139,
e 215 139,
(218, ⟨[o 484 0 1], 139, 0, none⟩),
(224, ⟨[o 791 0 1], 139, 0, none⟩),
e 227 139,
e 230 139,
e 233 139,
e 236 139,
e 239 139,
e 242 139,
(245, ⟨[o 793 0 1], 139, 0, none⟩),
e 251 139,
e 254 139,
e 257 139,
e 260 139,
e 263 139,
e 266 139,
e 269 139,
e 272 139,
e 275 139,
e 278 139,
e 281 139,
e 284 139,
e 287 139,
e 290 139,
(292, ⟨[.ptr 191 0, .ptr 200 0, .ptr 209 0, .ptr 218 0, .ptr 227 0, .ptr 236 0, .ptr 245 0, .ptr 254 0, .ptr 263 0, .ptr 272 0, .ptr 281 0, .ptr 290 0], 136, 1, none⟩),
e 293 139,
(295, ⟨[.ptr 194 0, .ptr 1203 0, .ptr 212 0, .ptr 1211 0, .ptr 230 0, .ptr 239 0, .ptr 1219 0, .ptr 257 0, .ptr 266 0, .ptr 275 0, .ptr 284 0, .ptr 293 0], 136, 1, none⟩),
e 296 139,
(298, ⟨[.ptr 197 0, .ptr 206 0, .ptr 215 0, .ptr 224 0, .ptr 233 0, .ptr 242 0, .ptr 251 0, .ptr 260 0, .ptr 269 0, .ptr 278 0, .ptr 287 0, .ptr 296 0], 136, 1, none⟩),
(300, ⟨[.int .u64 (.ofNat 7)], 224, 1, none⟩),
(476, ⟨[.int .u64 (.ofNat 1)], 224, 1, none⟩),
(482, ⟨[.int .u64 (.ofNat 8)], 224, 1, none⟩),
(484, ⟨[.int .u64 (.ofNat 1)], 224, 1, none⟩),
(791, ⟨[.int .u64 (.ofNat 64)], 224, 1, none⟩),
(793, ⟨[.int .u64 (.ofNat 1)], 224, 1, none⟩),
(795, ⟨[i 0, i 0, i 0], 3, 1, none⟩),
(1202, ⟨[.int .u64 (.ofNat 1)], 224, 1, none⟩),
(1203, ⟨[o 1202 0 1], 139, 0, none⟩),
(1210, ⟨[.int .u64 (.ofNat 1)], 224, 1, none⟩),
(1211, ⟨[o 1210 0 1], 139, 0, none⟩),
(1218, ⟨[.int .u64 (.ofNat 1)], 224, 1, none⟩),
(1219, ⟨[o 1218 0 1], 139, 0, none⟩)]
private noncomputable abbrev l3 : Bls := [(1, ⟨[i 0, i 0, i 0, i 0, i 1, i 0], 69, 0, none⟩),
(2, ⟨[f 1 0 3], 47, 0, none⟩),
(4, ⟨[i 1, i 0], 69, 0, none⟩),
(5, ⟨[i 0, i 0], 69, 0, none⟩),
(7, ⟨[i 1, i 0], 69, 0, none⟩),
(9, ⟨[.snil, i 0, i 0, f 4 0 1, i 0, i 0, f 5 0 1, i 0, i 0, f 7 0 1, i 1, i 0], 72, 0, none⟩),
(10, ⟨[i 0], 3, 0, none⟩),
(11, ⟨[f 10 0 1], 74, 0, none⟩),
(12, ⟨[f 2 0 1, f 9 0 4, f 11 0 1, .snil, o 50 0 3, i 0], 57, 0, none⟩),
(20, ⟨[i 0, i 0, i 1, i 0], 69, 2, none⟩),
(21, ⟨[o 30 0 3, i 3, i 0, i 0, i 0], 46, 0, none⟩),
(27, ⟨[i 1], 3, 0, none⟩),
(30, ⟨[i 1, i 0, i 0, i 0, i 1, .snil, i 5, i 1, i 0, i 0, i 0, .snil, i 12, i 0, i 0, i 0, i 1, f 27 0 1], 29, 6, none⟩),
(35, ⟨[i 1, i 0, i 0, i 0], 69, 2, none⟩),
(36, ⟨[o 42 0 1, i 3, i 1, i 0, i 0], 46, 0, none⟩),
(39, ⟨[i 0], 3, 0, none⟩),
(42, ⟨[i 12, i 1, i 0, i 0, i 2, f 39 0 1], 29, 6, none⟩),
(47, ⟨[i 1, i 0, i 0, i 0], 69, 2, none⟩),
(48, ⟨[o 53 0 1, i 3, i 1, i 0, i 0], 46, 0, none⟩),
(50, ⟨[i 0, o 20 0 2, f 21 0 1, i 1, o 35 0 2, f 36 0 1, i 1, o 47 0 2, f 48 0 1], 50, 3, none⟩),
(53, ⟨[i 7, i 1, i 0, i 0, i 0, .snil], 29, 6, none⟩),
(54, ⟨[o 86 0 3, o 90 0 3, o 129 0 1, o 118 0 1, o 120 0 1, i 12], 230, 0, none⟩),
(60, ⟨[i 0, i 1], 3, 1, none⟩),
(72, ⟨[i 3, i 4], 3, 1, none⟩),
(84, ⟨[i 6, i 7], 3, 1, none⟩),
(86, ⟨[o 60 0 2, o 72 0 2, o 84 0 2], 27, 1, none⟩),
(90, ⟨[i 2, i 5, i 8], 3, 1, none⟩),
(118, ⟨[i 1], 3, 1, none⟩),
(120, ⟨[i 0], 3, 1, none⟩),
(127, ⟨[i 9, i 10, i 11], 3, 1, none⟩),
(129, ⟨[o 127 0 3], 27, 1, none⟩),
(160, ⟨[o 184 0 12], 233, 0, none⟩),
(184, ⟨[i 0, i 1, i 2, i 3, i 4, i 5, i 6, i 7, i 8, i 9, i 10, i 11], 3, 1, none⟩),
(185, ⟨[.snil, .snil, .snil, .snil, .snil, .snil, .snil, .snil, .snil, .snil, .snil, .snil], 238, 0, none⟩),
(186, ⟨[o 300 0 1], 139, 0, none⟩),
(187, ⟨[], 0, 0, some (.map [(0, .agg [i 2, i 1], .c (.bool true)), (1, .agg [i 4, i 2], .c (.bool true))] 2)⟩),
(188, ⟨[], 0, 0, some (.map [] 3)⟩),
(189, ⟨[.snil, o 795 0 0, .map 188, i 3], 237, 0, none⟩),
(190, ⟨[.ptr 12 0, .ptr 54 0, .ptr 160 0, o 292 0 12, o 295 0 12, o 298 0 12, f 185 0 12, .ptr 186 0, .map 187, .ptr 189 0], 145, 0, none⟩),
e 191 139,
e 194 139,
e 197 139,
(200, ⟨[o 476 0 1], 139, 0, none⟩),
(206, ⟨[o 482 0 1], 139, 0, none⟩),
e 209 139,
e 212 139,
e 215 139,
(218, ⟨[o 484 0 1], 139, 0, none⟩),
(224, ⟨[o 791 0 1], 139, 0, none⟩),
e 227 139,
e 230 139,
e 233 139,
e 236 139,
e 239 139,
e 242 139,
(245, ⟨[o 793 0 1], 139, 0, none⟩),
e 251 139,
e 254 139,
e 257 139,
e 260 139,
e 263 139,
e 266 139,
e 269 139,
e 272 139,
e 275 139,
e 278 139,
e 281 139,
e 284 139,
e 287 139,
e 290 139,
(292, ⟨[.ptr 191 0, .ptr 200 0, .ptr 209 0, .ptr 218 0, .ptr 227 0, .ptr 236 0, .ptr 245 0, .ptr 254 0, .ptr 263 0, .ptr 272 0, .ptr 281 0, .ptr 290 0], 136, 1, none⟩),
e 293 139,
(295, ⟨[.ptr 194 0, .ptr 1203 0, .ptr 212 0, .ptr 1211 0, .ptr 230 0, .ptr 239 0, .ptr 1219 0, .ptr 257 0, .ptr 266 0, .ptr 275 0, .ptr 284 0, .ptr 293 0], 136, 1, none⟩),
e 296 139,
(298, ⟨[.ptr 197 0, .ptr 206 0, .ptr 215 0, .ptr 224 0, .ptr 233 0, .ptr 242 0, .ptr 251 0, .ptr 260 0, .ptr 269 0, .ptr 278 0, .ptr 287 0, .ptr 296 0], 136, 1, none⟩),
(300, ⟨[.int .u64 (.ofNat 7)], 224, 1, none⟩),
(476, ⟨[.int .u64 (.ofNat 1)], 224, 1, none⟩),
(482, ⟨[.int .u64 (.ofNat 8)], 224, 1, none⟩),
(484, ⟨[.int .u64 (.ofNat 1)], 224, 1, none⟩),
(791, ⟨[.int .u64 (.ofNat 64)], 224, 1, none⟩),
(793, ⟨[.int .u64 (.ofNat 1)], 224, 1, none⟩),
(795, ⟨[i 0, i 0, i 0], 3, 1, none⟩),
(1202, ⟨[.int .u64 (.ofNat 1)], 224, 1, none⟩),
(1203, ⟨[o 1202 0 1], 139, 0, none⟩),
(1210, ⟨[.int .u64 (.ofNat 1)], 224, 1, none⟩),
(1211, ⟨[o 1210 0 1], 139, 0, none⟩),
(1218, ⟨[.int .u64 (.ofNat 1)], 224, 1, none⟩),
(1219, ⟨[o 1218 0 1], 139, 0, none⟩)]
private noncomputable abbrev l4 : Bls := [(1540, ⟨[], 0, 0, some (.map [(0, .agg [i 4, i 0, i 0, i 1, i 0], .c (o 2302 0 1)), (1, .agg [i 4, i 0, i 0, i 1, i 1], .c (o 2317 0 1)), (2, .agg [i 4, i 0, i 0, i 1, i 2], .c (o 2332 0 1)), (3, .agg [i 1, i 1, i 0, i 0, i 0], .c (o 2363 0 1)), (4, .agg [i 5, i 1, i 0, i 0, i 0], .c (o 2368 0 1)), (5, .agg [i 3, i 1, i 0, i 1, i 0], .c (o 2425 0 2)), (6, .agg [i 1, i 2, i 0, i 0, i 0], .c (o 2408 0 1)), (7, .agg [i 3, i 1, i 0, i 1, i 1], .c (o 2442 0 1)), (8, .agg [i 3, i 1, i 0, i 1, i 2], .c (o 2459 0 1)), (9, .agg [i 2, i 1, i 0, i 0, i 0], .c (o 2483 0 1)), (10, .agg [i 5, i 2, i 0, i 0, i 0], .c (o 2488 0 1)), (11, .agg [i 4, i 1, i 0, i 1, i 0], .c (o 2541 0 2)), (12, .agg [i 1, i 4, i 0, i 0, i 0], .c (o 2526 0 1)), (13, .agg [i 4, i 2, i 0, i 1, i 0], .c (o 2609 0 2)), (14, .agg [i 1, i 6, i 0, i 0, i 0], .c (o 2594 0 1))] 15)⟩),
(1541, ⟨[.map 1540, .md 1 (.ofNat 0) true], 155, 0, none⟩),
(2302, ⟨[i 3, i 1, i 0, i 1, i 0], 116, 5, none⟩),
(2317, ⟨[i 3, i 1, i 0, i 1, i 1], 116, 5, none⟩),
(2332, ⟨[i 3, i 1, i 0, i 1, i 2], 116, 5, none⟩),
(2363, ⟨[i 2, i 1, i 0, i 0, i 0], 116, 5, none⟩),
(2368, ⟨[i 1, i 2, i 0, i 0, i 0], 116, 5, none⟩),
(2408, ⟨[i 5, i 0, i 0, i 0, i 0], 116, 5, none⟩),
(2425, ⟨[i 4, i 1, i 0, i 1, i 0, i 6, i 0, i 0, i 1, i 0], 116, 5, none⟩),
(2442, ⟨[i 6, i 0, i 0, i 1, i 1], 116, 5, none⟩),
(2459, ⟨[i 6, i 0, i 0, i 1, i 2], 116, 5, none⟩),
(2483, ⟨[i 2, i 2, i 0, i 0, i 0], 116, 5, none⟩),
(2488, ⟨[i 1, i 4, i 0, i 0, i 0], 116, 5, none⟩),
(2526, ⟨[i 5, i 1, i 0, i 0, i 0], 116, 5, none⟩),
(2541, ⟨[i 4, i 2, i 0, i 1, i 0, i 6, i 1, i 0, i 1, i 0], 116, 5, none⟩),
(2594, ⟨[i 5, i 2, i 0, i 0, i 0], 116, 5, none⟩),
(2609, ⟨[i 1, i 6, i 0, i 0, i 0, i 6, i 2, i 0, i 1, i 0], 116, 5, none⟩)]
private noncomputable def m0 : MM := ⟨[48], l0, 54, [⟨48, 0, [.v (.c (.ptr 12 0))], .v (.c (.nili))⟩]⟩
private theorem m0_k : H0.tbl m0 = true := by kernel_rfl
private noncomputable def h1 : HK := H0.memo m0 m0_k
private noncomputable def m1 : MM := ⟨[155], [(12, ⟨[f 2 0 1, f 9 0 4, f 11 0 1, .snil, o 50 0 3, i 0], 57, 0, none⟩),
(21, ⟨[o 30 0 3, i 3, i 0, i 0, i 0], 46, 0, none⟩),
(36, ⟨[o 42 0 1, i 3, i 1, i 0, i 0], 46, 0, none⟩),
(48, ⟨[o 53 0 1, i 3, i 1, i 0, i 0], 46, 0, none⟩),
(50, ⟨[i 0, o 20 0 2, f 21 0 1, i 1, o 35 0 2, f 36 0 1, i 1, o 47 0 2, f 48 0 1], 50, 3, none⟩)], 109, [⟨155, 0, [.v (.c (.ptr 12 0)), .v (.c (i 0))], .tup [.agg [i 0, i 0, i 0], .c (.bool true)]⟩,
⟨155, 1, [.v (.c (.ptr 12 0)), .v (.c (i 1))], .tup [.agg [i 0, i 0, i 1], .c (.bool true)]⟩,
⟨155, 2, [.v (.c (.ptr 12 0)), .v (.c (i 2))], .tup [.agg [i 0, i 0, i 2], .c (.bool true)]⟩,
⟨155, 3, [.v (.c (.ptr 12 0)), .v (.c (i 3))], .tup [.agg [i 0, i 0, i 3], .c (.bool true)]⟩,
⟨155, 4, [.v (.c (.ptr 12 0)), .v (.c (i 4))], .tup [.agg [i 1, i 0, i 0], .c (.bool true)]⟩,
⟨155, 5, [.v (.c (.ptr 12 0)), .v (.c (i 5))], .tup [.agg [i 1, i 0, i 1], .c (.bool true)]⟩,
⟨155, 6, [.v (.c (.ptr 12 0)), .v (.c (i 6))], .tup [.agg [i 2, i 0, i 0], .c (.bool true)]⟩,
⟨155, 7, [.v (.c (.ptr 12 0)), .v (.c (i 7))], .tup [.agg [i 2, i 0, i 1], .c (.bool true)]⟩]⟩
private theorem m1_k : h1.tbl m1 = true := by kernel_rfl
private noncomputable def h2 : HK := h1.memo m1 m1_k
private noncomputable def s1 : RE := ⟨76, [.v (.c (.ptr 12 0))], 54, .v (.c (.ptr 54 0)), l1, 160⟩
private theorem s1_k : h2.srp l0 s1 = true := by kernel_rfl
private noncomputable def h3 : HK := h2.srep _ s1 s1_k
private noncomputable def s2 : RE := ⟨49, [.v (.c (.ptr 12 0)), .v (.c (.snil))], 54, .v (.c (.ptr 190 0)), l2, 1220⟩
private theorem s2_k : h3.rep l0 s2 = true := by kernel_rfl
private noncomputable def h4 : HK := h3.repl _ s2 s2_k
private noncomputable def s3 : RE := ⟨151, [.v (.c (.ptr 12 0)), .v (.c (.ptr 190 0)), .v (.c (i 2))], 1340, .v (.c (.snil)), [], 1417⟩
private theorem s3_k : h4.srp l3 s3 = true := by kernel_rfl
private noncomputable def h5 : HK := h4.srep _ s3 s3_k
private noncomputable def s4 : RE := ⟨151, [.v (.c (.ptr 12 0)), .v (.c (.ptr 190 0)), .v (.c (i 4))], 1433, .v (.c (.snil)), [], 1501⟩
private theorem s4_k : h5.srp l3 s4 = true := by kernel_rfl
private noncomputable def h6 : HK := h5.srep _ s4 s4_k
private noncomputable def s5 : RE := ⟨85, [.v (.c (.ptr 12 0)), .v (.c (.ptr 190 0)), .v (.c (i 0))], 1543, .v (.c (o 1734 0 3)), [(1734, ⟨[i 1, i 0, i 1, i 1, i 1, i 2, i 0, i 0], 114, 2, none⟩)], 1750⟩
private theorem s5_k : h6.srp l3 s5 = true := by kernel_rfl
private noncomputable def h7 : HK := h6.srep _ s5 s5_k
private noncomputable def s6 : RE := ⟨86, [.v (.c (.ptr 12 0)), .v (.c (.ptr 190 0)), .v (.c (i 0))], 1752, .v (.c (o 1812 0 3)), [(1812, ⟨[i 1, i 0, i 1, i 1, i 1, i 2], 114, 2, none⟩)], 1849⟩
private theorem s6_k : h7.srp l3 s6 = true := by kernel_rfl
private noncomputable def h8 : HK := h7.srep _ s6 s6_k
private noncomputable def s7 : RE := ⟨85, [.v (.c (.ptr 12 0)), .v (.c (.ptr 190 0)), .v (.c (i 1))], 1851, .v (.c (o 1995 0 1)), [(1995, ⟨[i 1, i 0], 114, 2, none⟩)], 1996⟩
private theorem s7_k : h8.srp l3 s7 = true := by kernel_rfl
private noncomputable def h9 : HK := h8.srep _ s7 s7_k
private noncomputable def s8 : RE := ⟨86, [.v (.c (.ptr 12 0)), .v (.c (.ptr 190 0)), .v (.c (i 1))], 1998, .v (.c (.snil)), [], 2065⟩
private theorem s8_k : h9.srp l3 s8 = true := by kernel_rfl
private noncomputable def h10 : HK := h9.srep _ s8 s8_k
private noncomputable def s9 : RE := ⟨85, [.v (.c (.ptr 12 0)), .v (.c (.ptr 190 0)), .v (.c (i 2))], 2067, .v (.c (o 2193 0 1)), [(2193, ⟨[i 1, i 0], 114, 2, none⟩)], 2194⟩
private theorem s9_k : h10.srp l3 s9 = true := by kernel_rfl
private noncomputable def h11 : HK := h10.srep _ s9 s9_k
private noncomputable def s10 : RE := ⟨86, [.v (.c (.ptr 12 0)), .v (.c (.ptr 190 0)), .v (.c (i 2))], 2196, .v (.c (.snil)), [], 2254⟩
private theorem s10_k : h11.srp l3 s10 = true := by kernel_rfl
private noncomputable def h12 : HK := h11.srep _ s10 s10_k
private noncomputable def s11 : RE := ⟨50, [.v (.c (.ptr 12 0)), .v (.c (.ptr 190 0))], 1220, .v (.c (.ptr 1541 0)), l4, 2611⟩
private theorem s11_k : h12.rep l3 s11 = true := by kernel_rfl
private noncomputable def h13 : HK := h12.repl _ s11 s11_k
theorem TopNilParam_1_f_run : isBool true (runW h13.K 12 [mi 8 1, ab false] s0) = true := by kernel_rfl
theorem TopNilParam_1_f_law {args : Array Value} (ha : VAs (fun _ => none) [mi 8 1, ab false] args.toList) (w : World) (hT : Tab w) :
    Calls Tryz.prog 12 args w fun e w' => Below w.heap.size w w' ∧ e = .returned (.bool true) := h13.law TopNilParam_1_f_run ha w hT
end Go.Proofs.YteajpblmbmncdaaGreatDoor
