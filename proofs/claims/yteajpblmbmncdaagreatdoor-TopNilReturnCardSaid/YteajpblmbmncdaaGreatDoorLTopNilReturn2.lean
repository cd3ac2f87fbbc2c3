/- Tables of calls, and a run that uses them. -/
import Derived.Test.YteajpblmbmncdaaGreatDoorLn
namespace Go.Proofs.YteajpblmbmncdaaGreatDoor
open Go Go.RowKit Ev
set_option maxRecDepth 100000
set_option linter.unusedVariables false
private noncomputable abbrev i (n : Nat) : CV := .int .i64 (.ofNat n)
private noncomputable abbrev o (b a n : Nat) : CV := .slice b a n (.opn 0)
private noncomputable abbrev f (b a n : Nat) : CV := .slice b a n (.fix n)
private noncomputable abbrev e (k t : Nat) : Nat × BK := (k, ⟨[.snil], t, 0, none⟩)
private noncomputable abbrev l0 : Bls := [(1, ⟨[i 0, i 0, i 0, i 0, i 1, i 0], 69, 0, none⟩),
(2, ⟨[f 1 0 3], 47, 0, none⟩),
(4, ⟨[i 1, i 0], 69, 0, none⟩),
(5, ⟨[i 0, i 0], 69, 0, none⟩),
(7, ⟨[i 1, i 0], 69, 0, none⟩),
(9, ⟨[.snil, i 0, i 0, f 4 0 1, i 0, i 0, f 5 0 1, i 0, i 0, f 7 0 1, i 1, i 0], 72, 0, none⟩),
(10, ⟨[i 0], 3, 0, none⟩),
(11, ⟨[f 10 0 1], 74, 0, none⟩),
(12, ⟨[f 2 0 1, f 9 0 4, f 11 0 1, .snil, o 55 0 3, i 0], 57, 0, none⟩),
(23, ⟨[i 0, i 0, i 1, i 0, i 1, i 0], 69, 2, none⟩),
(24, ⟨[o 33 0 4, i 3, i 0, i 0, i 0], 46, 0, none⟩),
(29, ⟨[i 1], 3, 0, none⟩),
(33, ⟨[i 1, i 0, i 0, i 0, i 1, .snil, i 5, i 1, i 0, i 0, i 0, .snil, i 12, i 2, i 0, i 0, i 1, f 29 0 1, i 8, i 0, i 2, i 0, i 0, .snil], 29, 6, none⟩),
(39, ⟨[i 1, i 0, i 1, i 0], 69, 2, none⟩),
(40, ⟨[o 46 0 1, i 3, i 1, i 0, i 0], 46, 0, none⟩),
(43, ⟨[i 0], 3, 0, none⟩),
(46, ⟨[i 12, i 1, i 0, i 0, i 2, f 43 0 1], 29, 6, none⟩),
(52, ⟨[i 1, i 0, i 1, i 0], 69, 2, none⟩),
(53, ⟨[o 58 0 1, i 3, i 1, i 0, i 0], 46, 0, none⟩),
(55, ⟨[i 0, o 23 0 3, f 24 0 1, i 3, o 39 0 2, f 40 0 1, i 3, o 52 0 2, f 53 0 1], 50, 3, none⟩),
(58, ⟨[i 4, i 1, i 0, i 0, i 0, .snil], 29, 6, none⟩)]
private noncomputable abbrev l1 : Bls := [(61, ⟨[o 95 0 3, o 99 0 3, o 140 0 1, o 129 0 1, o 131 0 1, i 13], 230, 0, none⟩),
(69, ⟨[i 0, i 1, i 2], 3, 1, none⟩),
(81, ⟨[i 4, i 5], 3, 1, none⟩),
(93, ⟨[i 7, i 8], 3, 1, none⟩),
(95, ⟨[o 69 0 3, o 81 0 2, o 93 0 2], 27, 1, none⟩),
(99, ⟨[i 3, i 6, i 9], 3, 1, none⟩),
(129, ⟨[i 1], 3, 1, none⟩),
(131, ⟨[i 0], 3, 1, none⟩),
(138, ⟨[i 10, i 11, i 12], 3, 1, none⟩),
(140, ⟨[o 138 0 3], 27, 1, none⟩)]
private noncomputable abbrev l2 : Bls := [(61, ⟨[o 95 0 3, o 99 0 3, o 140 0 1, o 129 0 1, o 131 0 1, i 13], 230, 0, none⟩),
(69, ⟨[i 0, i 1, i 2], 3, 1, none⟩),
(81, ⟨[i 4, i 5], 3, 1, none⟩),
(93, ⟨[i 7, i 8], 3, 1, none⟩),
(95, ⟨[o 69 0 3, o 81 0 2, o 93 0 2], 27, 1, none⟩),
(99, ⟨[i 3, i 6, i 9], 3, 1, none⟩),
(129, ⟨[i 1], 3, 1, none⟩),
(131, ⟨[i 0], 3, 1, none⟩),
(138, ⟨[i 10, i 11, i 12], 3, 1, none⟩),
(140, ⟨[o 138 0 3], 27, 1, none⟩),
(176, ⟨[o 202 0 13], 233, 0, none⟩),
(202, ⟨[i 0, i 1, i 2, i 3, i 4, i 5, i 6, i 7, i 8, i 9, i 10, i 11, i 12], 3, 1, none⟩),
(203, ⟨[.snil, .snil, .snil, .snil, .snil, .snil, .snil, .snil, .snil, .snil, .snil, .snil, .snil], 238, 0, none⟩),
(204, ⟨[o 327 0 1], 139, 0, none⟩),
(205, ⟨[], 0, 0, some (.map [(0, .agg [i 2, i 1], .c (.bool true)), (1, .agg [i 5, i 2], .c (.bool true))] 2)⟩),
(206, ⟨[], 0, 0, some (.map [] 3)⟩),
(207, ⟨[.snil, o 878 0 0, .map 206, i 3], 237, 0, none⟩),
(208, ⟨[.ptr 12 0, .ptr 61 0, .ptr 176 0, o 319 0 13, o 322 0 13, o 325 0 13, f 203 0 13, .ptr 204 0, .map 205, .ptr 207 0], 145, 0, none⟩),
e 209 139,
e 212 139,
e 215 139,
(218, ⟨[o 524 0 1], 139, 0, none⟩),
(224, ⟨[o 530 0 1], 139, 0, none⟩),
e 227 139,
e 230 139,
e 233 139,
e 236 139,
e 239 139,
e 242 139,
(245, ⟨[o 532 0 1], 139, 0, none⟩),
(251, ⟨[o 874 0 1], 139, 0, none⟩),
e 254 139,
e 257 139,
(260, ⟨[o 886 0 1], 139, 0, none⟩),
e 263 139,
e 266 139,
(269, ⟨[o 538 0 1], 139, 0, none⟩),
(272, ⟨[o 876 0 1], 139, 0, none⟩),
e 278 139,
e 281 139,
e 284 139,
(287, ⟨[o 1230 0 1], 139, 0, none⟩),
e 290 139,
e 293 139,
(296, ⟨[o 882 0 1], 139, 0, none⟩),
e 299 139,
e 302 139,
e 305 139,
e 308 139,
e 311 139,
e 314 139,
e 317 139,
(319, ⟨[.ptr 209 0, .ptr 218 0, .ptr 227 0, .ptr 236 0, .ptr 245 0, .ptr 254 0, .ptr 263 0, .ptr 272 0, .ptr 281 0, .ptr 290 0, .ptr 299 0, .ptr 308 0, .ptr 317 0], 136, 1, none⟩),
e 320 139,
(322, ⟨[.ptr 212 0, .ptr 1344 0, .ptr 230 0, .ptr 239 0, .ptr 1352 0, .ptr 257 0, .ptr 266 0, .ptr 1360 0, .ptr 284 0, .ptr 293 0, .ptr 302 0, .ptr 311 0, .ptr 320 0], 136, 1, none⟩),
e 323 139,
(325, ⟨[.ptr 215 0, .ptr 224 0, .ptr 233 0, .ptr 242 0, .ptr 251 0, .ptr 260 0, .ptr 269 0, .ptr 278 0, .ptr 287 0, .ptr 296 0, .ptr 305 0, .ptr 314 0, .ptr 323 0], 136, 1, none⟩),
(327, ⟨[.int .u64 (.ofNat 7)], 224, 1, none⟩),
(524, ⟨[.int .u64 (.ofNat 1)], 224, 1, none⟩),
(530, ⟨[.int .u64 (.ofNat 16)], 224, 1, none⟩),
(532, ⟨[.int .u64 (.ofNat 1)], 224, 1, none⟩),
(538, ⟨[.int .u64 (.ofNat 4)], 224, 1, none⟩),
(874, ⟨[.int .u64 (.ofNat 128)], 224, 1, none⟩),
(876, ⟨[.int .u64 (.ofNat 1)], 224, 1, none⟩),
(878, ⟨[i 0, i 0, i 0], 3, 1, none⟩),
(882, ⟨[.int .u64 (.ofNat 32)], 224, 1, none⟩),
(886, ⟨[.int .u64 (.ofNat 64)], 224, 1, none⟩),
(1230, ⟨[.int .u64 (.ofNat 512)], 224, 1, none⟩),
(1343, ⟨[.int .u64 (.ofNat 1)], 224, 1, none⟩),
(1344, ⟨[o 1343 0 1], 139, 0, none⟩),
(1351, ⟨[.int .u64 (.ofNat 1)], 224, 1, none⟩),
(1352, ⟨[o 1351 0 1], 139, 0, none⟩),
(1359, ⟨[.int .u64 (.ofNat 1)], 224, 1, none⟩),
(1360, ⟨[o 1359 0 1], 139, 0, none⟩)]
private noncomputable abbrev l3 : Bls := [(1, ⟨[i 0, i 0, i 0, i 0, i 1, i 0], 69, 0, none⟩),
(2, ⟨[f 1 0 3], 47, 0, none⟩),
(4, ⟨[i 1, i 0], 69, 0, none⟩),
(5, ⟨[i 0, i 0], 69, 0, none⟩),
(7, ⟨[i 1, i 0], 69, 0, none⟩),
(9, ⟨[.snil, i 0, i 0, f 4 0 1, i 0, i 0, f 5 0 1, i 0, i 0, f 7 0 1, i 1, i 0], 72, 0, none⟩),
(10, ⟨[i 0], 3, 0, none⟩),
(11, ⟨[f 10 0 1], 74, 0, none⟩),
(12, ⟨[f 2 0 1, f 9 0 4, f 11 0 1, .snil, o 55 0 3, i 0], 57, 0, none⟩),
(23, ⟨[i 0, i 0, i 1, i 0, i 1, i 0], 69, 2, none⟩),
(24, ⟨[o 33 0 4, i 3, i 0, i 0, i 0], 46, 0, none⟩),
(29, ⟨[i 1], 3, 0, none⟩),
(33, ⟨[i 1, i 0, i 0, i 0, i 1, .snil, i 5, i 1, i 0, i 0, i 0, .snil, i 12, i 2, i 0, i 0, i 1, f 29 0 1, i 8, i 0, i 2, i 0, i 0, .snil], 29, 6, none⟩),
(39, ⟨[i 1, i 0, i 1, i 0], 69, 2, none⟩),
(40, ⟨[o 46 0 1, i 3, i 1, i 0, i 0], 46, 0, none⟩),
(43, ⟨[i 0], 3, 0, none⟩),
(46, ⟨[i 12, i 1, i 0, i 0, i 2, f 43 0 1], 29, 6, none⟩),
(52, ⟨[i 1, i 0, i 1, i 0], 69, 2, none⟩),
(53, ⟨[o 58 0 1, i 3, i 1, i 0, i 0], 46, 0, none⟩),
(55, ⟨[i 0, o 23 0 3, f 24 0 1, i 3, o 39 0 2, f 40 0 1, i 3, o 52 0 2, f 53 0 1], 50, 3, none⟩),
(58, ⟨[i 4, i 1, i 0, i 0, i 0, .snil], 29, 6, none⟩),
(61, ⟨[o 95 0 3, o 99 0 3, o 140 0 1, o 129 0 1, o 131 0 1, i 13], 230, 0, none⟩),
(69, ⟨[i 0, i 1, i 2], 3, 1, none⟩),
(81, ⟨[i 4, i 5], 3, 1, none⟩),
(93, ⟨[i 7, i 8], 3, 1, none⟩),
(95, ⟨[o 69 0 3, o 81 0 2, o 93 0 2], 27, 1, none⟩),
(99, ⟨[i 3, i 6, i 9], 3, 1, none⟩),
(129, ⟨[i 1], 3, 1, none⟩),
(131, ⟨[i 0], 3, 1, none⟩),
(138, ⟨[i 10, i 11, i 12], 3, 1, none⟩),
(140, ⟨[o 138 0 3], 27, 1, none⟩),
(176, ⟨[o 202 0 13], 233, 0, none⟩),
(202, ⟨[i 0, i 1, i 2, i 3, i 4, i 5, i 6, i 7, i 8, i 9, i 10, i 11, i 12], 3, 1, none⟩),
(203, ⟨[.snil, .snil, .snil, .snil, .snil, .snil, .snil, .snil, .snil, .snil, .snil, .snil, .snil], 238, 0, none⟩),
(204, ⟨[o 327 0 1], 139, 0, none⟩),
(205, ⟨[], 0, 0, some (.map [(0, .agg [i 2, i 1], .c (.bool true)), (1, .agg [i 5, i 2], .c (.bool true))] 2)⟩),
(206, ⟨[], 0, 0, some (.map [] 3)⟩),
(207, ⟨[.snil, o 878 0 0, .map 206, i 3], 237, 0, none⟩),
(208, ⟨[.ptr 12 0, .ptr 61 0, .ptr 176 0, o 319 0 13, o 322 0 13, o 325 0 13, f 203 0 13, .ptr 204 0, .map 205, .ptr 207 0], 145, 0, none⟩),
e 209 139,
e 212 139,
e 215 139,
(218, ⟨[o 524 0 1], 139, 0, none⟩),
(224, ⟨[o 530 0 1], 139, 0, none⟩),
e 227 139,
e 230 139,
e 233 139,
e 236 139,
e 239 139,
e 242 139,
(245, ⟨[o 532 0 1], 139, 0, none⟩),
(251, ⟨[o 874 0 1], 139, 0, none⟩),
e 254 139,
e 257 139,
(260, ⟨[o 886 0 1], 139, 0, none⟩),
e 263 139,
e 266 139,
(269, ⟨[o 538 0 1], 139, 0, none⟩),
(272, ⟨[o 876 0 1], 139, 0, none⟩),
e 278 139,
e 281 139,
e 284 139,
(287, ⟨[o 1230 0 1], 139, 0, none⟩),
e 290 139,
e 293 139,
(296, ⟨[o 882 0 1], 139, 0, none⟩),
e 299 139,
e 302 139,
e 305 139,
e 308 139,
e 311 139,
e 314 139,
e 317 139,
(319, ⟨[.ptr 209 0, .ptr 218 0, .ptr 227 0, .ptr 236 0, .ptr 245 0, .ptr 254 0, .ptr 263 0, .ptr 272 0, .ptr 281 0, .ptr 290 0, .ptr 299 0, .ptr 308 0, .ptr 317 0], 136, 1, none⟩),
e 320 139,
(322, ⟨[.ptr 212 0, .ptr 1344 0, .ptr 230 0, .ptr 239 0, .ptr 1352 0, .ptr 257 0, .ptr 266 0, .ptr 1360 0, .ptr 284 0, .ptr 293 0, .ptr 302 0, .ptr 311 0, .ptr 320 0], 136, 1, none⟩),
e 323 139,
(325, ⟨[.ptr 215 0, .ptr 224 0, .ptr 233 0, .ptr 242 0, .ptr 251 0, .ptr 260 0, .ptr 269 0, .ptr 278 0, .ptr 287 0, .ptr 296 0, .ptr 305 0, .ptr 314 0, .ptr 323 0], 136, 1, none⟩),
(327, ⟨[.int .u64 (.ofNat 7)], 224, 1, none⟩),
(524, ⟨[.int .u64 (.ofNat 1)], 224, 1, none⟩),
(530, ⟨[.int .u64 (.ofNat 16)], 224, 1, none⟩),
(532, ⟨[.int .u64 (.ofNat 1)], 224, 1, none⟩),
(538, ⟨[.int .u64 (.ofNat 4)], 224, 1, none⟩),
(874, ⟨[.int .u64 (.ofNat 128)], 224, 1, none⟩),
(876, ⟨[.int .u64 (.ofNat 1)], 224, 1, none⟩),
(878, ⟨[i 0, i 0, i 0], 3, 1, none⟩),
(882, ⟨[.int .u64 (.ofNat 32)], 224, 1, none⟩),
(886, ⟨[.int .u64 (.ofNat 64)], 224, 1, none⟩),
(1230, ⟨[.int .u64 (.ofNat 512)], 224, 1, none⟩),
(1343, ⟨[.int .u64 (.ofNat 1)], 224, 1, none⟩),
(1344, ⟨[o 1343 0 1], 139, 0, none⟩),
(1351, ⟨[.int .u64 (.ofNat 1)], 224, 1, none⟩),
(1352, ⟨[o 1351 0 1], 139, 0, none⟩),
(1359, ⟨[.int .u64 (.ofNat 1)], 224, 1, none⟩),
(1360, ⟨[o 1359 0 1], 139, 0, none⟩)]
private noncomputable abbrev l4 : Bls := [(1713, ⟨[], 0, 0, some (.map [(0, .agg [i 4, i 0, i 0, i 1, i 0], .c (o 2484 0 1)), (1, .agg [i 4, i 0, i 0, i 1, i 1], .c (o 2499 0 1)), (2, .agg [i 4, i 0, i 0, i 1, i 2], .c (o 2514 0 1)), (3, .agg [i 1, i 1, i 0, i 0, i 0], .c (o 2545 0 1)), (4, .agg [i 5, i 1, i 0, i 0, i 0], .c (o 2550 0 1)), (5, .agg [i 1, i 0, i 0, i 0, i 0], .c (o 2609 0 1)), (6, .agg [i 3, i 1, i 0, i 1, i 0], .c (o 2628 0 1)), (7, .agg [i 3, i 1, i 0, i 1, i 1], .c (o 2647 0 1)), (8, .agg [i 3, i 1, i 0, i 1, i 2], .c (o 2666 0 1)), (9, .agg [i 2, i 1, i 0, i 0, i 0], .c (o 2690 0 1)), (10, .agg [i 5, i 2, i 0, i 0, i 0], .c (o 2695 0 1)), (11, .agg [i 1, i 5, i 0, i 0, i 0], .c (o 2720 0 1)), (12, .agg [i 1, i 7, i 0, i 0, i 0], .c (o 2751 0 1))] 13)⟩),
(1714, ⟨[.map 1713, .md 1 (.ofNat 0) true], 155, 0, none⟩),
(2484, ⟨[i 3, i 1, i 0, i 1, i 0], 116, 5, none⟩),
(2499, ⟨[i 3, i 1, i 0, i 1, i 1], 116, 5, none⟩),
(2514, ⟨[i 3, i 1, i 0, i 1, i 2], 116, 5, none⟩),
(2545, ⟨[i 2, i 1, i 0, i 0, i 0], 116, 5, none⟩),
(2550, ⟨[i 1, i 2, i 0, i 0, i 0], 116, 5, none⟩),
(2609, ⟨[i 5, i 0, i 0, i 0, i 0], 116, 5, none⟩),
(2628, ⟨[i 6, i 0, i 0, i 1, i 0], 116, 5, none⟩),
(2647, ⟨[i 6, i 0, i 0, i 1, i 1], 116, 5, none⟩),
(2666, ⟨[i 6, i 0, i 0, i 1, i 2], 116, 5, none⟩),
(2690, ⟨[i 2, i 2, i 0, i 0, i 0], 116, 5, none⟩),
(2695, ⟨[i 1, i 5, i 0, i 0, i 0], 116, 5, none⟩),
(2720, ⟨[i 5, i 1, i 0, i 0, i 0], 116, 5, none⟩),
(2751, ⟨[i 5, i 2, i 0, i 0, i 0], 116, 5, none⟩)]
private noncomputable def m0 : MM := ⟨[48], l0, 61, [⟨48, 0, [.v (.c (.ptr 12 0))], .v (.c (.nili))⟩]⟩
private theorem m0_k : H0.tbl m0 = true := by kernel_rfl
private noncomputable def h1 : HK := H0.memo m0 m0_k
private noncomputable def m1 : MM := ⟨[155], [(12, ⟨[f 2 0 1, f 9 0 4, f 11 0 1, .snil, o 55 0 3, i 0], 57, 0, none⟩),
(24, ⟨[o 33 0 4, i 3, i 0, i 0, i 0], 46, 0, none⟩),
(40, ⟨[o 46 0 1, i 3, i 1, i 0, i 0], 46, 0, none⟩),
(53, ⟨[o 58 0 1, i 3, i 1, i 0, i 0], 46, 0, none⟩),
(55, ⟨[i 0, o 23 0 3, f 24 0 1, i 3, o 39 0 2, f 40 0 1, i 3, o 52 0 2, f 53 0 1], 50, 3, none⟩)], 120, [⟨155, 0, [.v (.c (.ptr 12 0)), .v (.c (i 0))], .tup [.agg [i 0, i 0, i 0], .c (.bool true)]⟩,
⟨155, 1, [.v (.c (.ptr 12 0)), .v (.c (i 1))], .tup [.agg [i 0, i 0, i 1], .c (.bool true)]⟩,
⟨155, 2, [.v (.c (.ptr 12 0)), .v (.c (i 2))], .tup [.agg [i 0, i 0, i 2], .c (.bool true)]⟩,
⟨155, 3, [.v (.c (.ptr 12 0)), .v (.c (i 3))], .tup [.agg [i 0, i 0, i 3], .c (.bool true)]⟩,
⟨155, 4, [.v (.c (.ptr 12 0)), .v (.c (i 4))], .tup [.agg [i 0, i 0, i 4], .c (.bool true)]⟩,
⟨155, 5, [.v (.c (.ptr 12 0)), .v (.c (i 5))], .tup [.agg [i 1, i 0, i 0], .c (.bool true)]⟩,
⟨155, 6, [.v (.c (.ptr 12 0)), .v (.c (i 6))], .tup [.agg [i 1, i 0, i 1], .c (.bool true)]⟩,
⟨155, 7, [.v (.c (.ptr 12 0)), .v (.c (i 7))], .tup [.agg [i 2, i 0, i 0], .c (.bool true)]⟩,
⟨155, 8, [.v (.c (.ptr 12 0)), .v (.c (i 8))], .tup [.agg [i 2, i 0, i 1], .c (.bool true)]⟩]⟩
private theorem m1_k : h1.tbl m1 = true := by kernel_rfl
private noncomputable def h2 : HK := h1.memo m1 m1_k
private noncomputable def s1 : RE := ⟨76, [.v (.c (.ptr 12 0))], 61, .v (.c (.ptr 61 0)), l1, 176⟩
private theorem s1_k : h2.srp l0 s1 = true := by kernel_rfl
private noncomputable def h3 : HK := h2.srep _ s1 s1_k
private noncomputable def s2 : RE := ⟨49, [.v (.c (.ptr 12 0)), .v (.c (.snil))], 61, .v (.c (.ptr 208 0)), l2, 1361⟩
private theorem s2_k : h3.rep l0 s2 = true := by kernel_rfl
private noncomputable def h4 : HK := h3.repl _ s2 s2_k
private noncomputable def s3 : RE := ⟨151, [.v (.c (.ptr 12 0)), .v (.c (.ptr 208 0)), .v (.c (i 2))], 1489, .v (.c (.snil)), [], 1569⟩
private theorem s3_k : h4.srp l3 s3 = true := by kernel_rfl
private noncomputable def h5 : HK := h4.srep _ s3 s3_k
private noncomputable def s4 : RE := ⟨151, [.v (.c (.ptr 12 0)), .v (.c (.ptr 208 0)), .v (.c (i 5))], 1603, .v (.c (.snil)), [], 1674⟩
private theorem s4_k : h5.srp l3 s4 = true := by kernel_rfl
private noncomputable def h6 : HK := h5.srep _ s4 s4_k
private noncomputable def s5 : RE := ⟨85, [.v (.c (.ptr 12 0)), .v (.c (.ptr 208 0)), .v (.c (i 0))], 1716, .v (.c (o 1778 0 3)), [(1778, ⟨[i 1, i 0, i 1, i 1, i 1, i 2], 114, 2, none⟩)], 1922⟩
private theorem s5_k : h6.srp l3 s5 = true := by kernel_rfl
private noncomputable def h7 : HK := h6.srep _ s5 s5_k
private noncomputable def s6 : RE := ⟨86, [.v (.c (.ptr 12 0)), .v (.c (.ptr 208 0)), .v (.c (i 0))], 1924, .v (.c (o 1986 0 3)), [(1986, ⟨[i 1, i 0, i 1, i 1, i 1, i 2], 114, 2, none⟩)], 2033⟩
private theorem s6_k : h7.srp l3 s6 = true := by kernel_rfl
private noncomputable def h8 : HK := h7.srep _ s6 s6_k
private noncomputable def s7 : RE := ⟨85, [.v (.c (.ptr 12 0)), .v (.c (.ptr 208 0)), .v (.c (i 1))], 2035, .v (.c (.snil)), [], 2175⟩
private theorem s7_k : h8.srp l3 s7 = true := by kernel_rfl
private noncomputable def h9 : HK := h8.srep _ s7 s7_k
private noncomputable def s8 : RE := ⟨86, [.v (.c (.ptr 12 0)), .v (.c (.ptr 208 0)), .v (.c (i 1))], 2177, .v (.c (.snil)), [], 2247⟩
private theorem s8_k : h9.srp l3 s8 = true := by kernel_rfl
private noncomputable def h10 : HK := h9.srep _ s8 s8_k
private noncomputable def s9 : RE := ⟨85, [.v (.c (.ptr 12 0)), .v (.c (.ptr 208 0)), .v (.c (i 2))], 2249, .v (.c (.snil)), [], 2371⟩
private theorem s9_k : h10.srp l3 s9 = true := by kernel_rfl
private noncomputable def h11 : HK := h10.srep _ s9 s9_k
private noncomputable def s10 : RE := ⟨86, [.v (.c (.ptr 12 0)), .v (.c (.ptr 208 0)), .v (.c (i 2))], 2373, .v (.c (.snil)), [], 2434⟩
private theorem s10_k : h11.srp l3 s10 = true := by kernel_rfl
private noncomputable def h12 : HK := h11.srep _ s10 s10_k
private noncomputable def s11 : RE := ⟨50, [.v (.c (.ptr 12 0)), .v (.c (.ptr 208 0))], 1361, .v (.c (.ptr 1714 0)), l4, 2753⟩
private theorem s11_k : h12.rep l3 s11 = true := by kernel_rfl
private noncomputable def h13 : HK := h12.repl _ s11 s11_k
theorem TopNilReturn_1_t_run : isBool true (runW h13.K 13 [mi 8 1, ab true] s0) = true := by kernel_rfl
theorem TopNilReturn_1_t_law {args : Array Value} (ha : VAs (fun _ => none) [mi 8 1, ab true] args.toList) (w : World) (hT : Tab w) :
    Calls Tryz.prog 13 args w fun e w' => Below w.heap.size w w' ∧ e = .returned (.bool true) := h13.law TopNilReturn_1_t_run ha w hT
end Go.Proofs.YteajpblmbmncdaaGreatDoor
