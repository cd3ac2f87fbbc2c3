/- Tables of calls, and a run that uses them. -/
import Derived.Test.YteajpblmbmncdaaGreatDoorLn
namespace Go.Proofs.YteajpblmbmncdaaGreatDoor
open Go Go.RowKit Ev
set_option maxRecDepth 100000
set_option linter.unusedVariables false
private noncomputable abbrev i (n : Nat) : CV := .int .i64 (.ofNat n)
private noncomputable abbrev o (b a n : Nat) : CV := .slice b a n (.opn 0)
private noncomputable abbrev f (b a n : Nat) : CV := .slice b a n (.fix n)
private noncomputable abbrev e (k t : Nat) : Nat × BK := (k, ⟨[.snil], t, 0, none⟩)
private noncomputable abbrev l0 : Bls := [(1, ⟨[i 0, i 0, i 0, i 0, i 1, i 0], 69, 0, none⟩),
(2, ⟨[f 1 0 3], 47, 0, none⟩),
(4, ⟨[i 1, i 0], 69, 0, none⟩),
(5, ⟨[i 0, i 0], 69, 0, none⟩),
(7, ⟨[i 1, i 0], 69, 0, none⟩),
(9, ⟨[.snil, i 0, i 0, f 4 0 1, i 0, i 0, f 5 0 1, i 0, i 0, f 7 0 1, i 1, i 0], 72, 0, none⟩),
(10, ⟨[i 0], 3, 0, none⟩),
(11, ⟨[f 10 0 1], 74, 0, none⟩),
(12, ⟨[f 2 0 1, f 9 0 4, f 11 0 1, .snil, o 75 0 5, i 0], 57, 0, none⟩),
(20, ⟨[i 0, i 0, i 1, i 0], 69, 2, none⟩),
(21, ⟨[o 31 0 3, i 3, i 0, i 0, i 0], 46, 0, none⟩),
(28, ⟨[i 1], 3, 0, none⟩),
(31, ⟨[i 1, i 0, i 0, i 0, i 1, .snil, i 4, i 1, i 0, i 0, i 0, .snil, i 12, i 0, i 0, i 0, i 1, f 28 0 1], 29, 6, none⟩),
(36, ⟨[i 1, i 0, i 0, i 0], 69, 2, none⟩),
(37, ⟨[o 43 0 1, i 3, i 1, i 0, i 0], 46, 0, none⟩),
(40, ⟨[i 0], 3, 0, none⟩),
(43, ⟨[i 12, i 1, i 0, i 0, i 2, f 40 0 1], 29, 6, none⟩),
(48, ⟨[i 1, i 0, i 0, i 0], 69, 2, none⟩),
(49, ⟨[o 55 0 1, i 3, i 1, i 0, i 0], 46, 0, none⟩),
(52, ⟨[i 0], 3, 0, none⟩),
(55, ⟨[i 12, i 1, i 0, i 0, i 3, f 52 0 1], 29, 6, none⟩),
(60, ⟨[i 1, i 0, i 0, i 0], 69, 2, none⟩),
(61, ⟨[o 67 0 1, i 3, i 1, i 0, i 0], 46, 0, none⟩),
(64, ⟨[i 0], 3, 0, none⟩),
(67, ⟨[i 12, i 1, i 0, i 0, i 4, f 64 0 1], 29, 6, none⟩),
(72, ⟨[i 1, i 0, i 0, i 0], 69, 2, none⟩),
(73, ⟨[o 78 0 1, i 3, i 1, i 0, i 0], 46, 0, none⟩),
(75, ⟨[i 0, o 20 0 2, f 21 0 1, i 1, o 36 0 2, f 37 0 1, i 1, o 48 0 2, f 49 0 1, i 1, o 60 0 2, f 61 0 1, i 1, o 72 0 2, f 73 0 1], 50, 3, none⟩),
(78, ⟨[i 7, i 1, i 0, i 0, i 0, .snil], 29, 6, none⟩)]
private noncomputable abbrev l1 : Bls := [(12, ⟨[f 2 0 1, f 9 0 4, f 11 0 1, .snil, o 75 0 5, i 0], 57, 0, none⟩),
(21, ⟨[o 31 0 3, i 3, i 0, i 0, i 0], 46, 0, none⟩),
(37, ⟨[o 43 0 1, i 3, i 1, i 0, i 0], 46, 0, none⟩),
(49, ⟨[o 55 0 1, i 3, i 1, i 0, i 0], 46, 0, none⟩),
(61, ⟨[o 67 0 1, i 3, i 1, i 0, i 0], 46, 0, none⟩),
(73, ⟨[o 78 0 1, i 3, i 1, i 0, i 0], 46, 0, none⟩),
(75, ⟨[i 0, o 20 0 2, f 21 0 1, i 1, o 36 0 2, f 37 0 1, i 1, o 48 0 2, f 49 0 1, i 1, o 60 0 2, f 61 0 1, i 1, o 72 0 2, f 73 0 1], 50, 3, none⟩)]
private noncomputable abbrev l2 : Bls := [(106, ⟨[o 162 0 5, o 166 0 5, .snil, .snil, .snil, i 15], 230, 0, none⟩),
(112, ⟨[i 0, i 1], 3, 1, none⟩),
(124, ⟨[i 3, i 4], 3, 1, none⟩),
(136, ⟨[i 6, i 7], 3, 1, none⟩),
(148, ⟨[i 9, i 10], 3, 1, none⟩),
(160, ⟨[i 12, i 13], 3, 1, none⟩),
(162, ⟨[o 112 0 2, o 124 0 2, o 136 0 2, o 148 0 2, o 160 0 2], 27, 1, none⟩),
(166, ⟨[i 2, i 5, i 8, i 11, i 14], 3, 1, none⟩),
(251, ⟨[o 281 0 15], 233, 0, none⟩),
(281, ⟨[i 0, i 1, i 2, i 3, i 4, i 5, i 6, i 7, i 8, i 9, i 10, i 11, i 12, i 13, i 14], 3, 1, none⟩),
(282, ⟨[.snil, .snil, .snil, .snil, .snil, .snil, .snil, .snil, .snil, .snil, .snil, .snil, .snil, .snil, .snil], 238, 0, none⟩),
(283, ⟨[o 424 0 1], 139, 0, none⟩),
(284, ⟨[], 0, 0, some (.map [(0, .agg [i 2, i 1], .c (.bool true)), (1, .agg [i 4, i 2], .c (.bool true)), (2, .agg [i 6, i 3], .c (.bool true)), (3, .agg [i 8, i 4], .c (.bool true))] 4)⟩),
(285, ⟨[], 0, 0, some (.map [] 0)⟩),
(286, ⟨[.snil, .snil, .map 285, i 0], 237, 0, none⟩),
(287, ⟨[.ptr 12 0, .ptr 106 0, .ptr 251 0, o 416 0 15, o 419 0 15, o 422 0 15, f 282 0 15, .ptr 283 0, .map 284, .ptr 286 0], 145, 0, none⟩),
e 288 139,
e 291 139,
e 294 139,
e 297 139,
e 300 139,
(303, ⟨[o 643 0 1], 139, 0, none⟩),
e 306 139,
e 309 139,
e 312 139,
e 315 139,
e 318 139,
(321, ⟨[o 1046 0 1], 139, 0, none⟩),
e 324 139,
e 327 139,
e 330 139,
e 333 139,
e 336 139,
e 339 139,
e 342 139,
e 345 139,
(348, ⟨[o 1459 0 1], 139, 0, none⟩),
e 351 139,
e 354 139,
e 357 139,
e 360 139,
e 363 139,
e 366 139,
e 369 139,
e 372 139,
(375, ⟨[o 1882 0 1], 139, 0, none⟩),
e 378 139,
e 381 139,
e 384 139,
e 387 139,
e 390 139,
e 393 139,
e 396 139,
e 399 139,
e 402 139,
e 405 139,
e 408 139,
e 411 139,
e 414 139,
(416, ⟨[.ptr 288 0, .ptr 297 0, .ptr 306 0, .ptr 315 0, .ptr 324 0, .ptr 333 0, .ptr 342 0, .ptr 351 0, .ptr 360 0, .ptr 369 0, .ptr 378 0, .ptr 387 0, .ptr 396 0, .ptr 405 0, .ptr 414 0], 136, 1, none⟩),
e 417 139,
(419, ⟨[.ptr 291 0, .ptr 300 0, .ptr 309 0, .ptr 318 0, .ptr 327 0, .ptr 336 0, .ptr 345 0, .ptr 354 0, .ptr 363 0, .ptr 372 0, .ptr 381 0, .ptr 390 0, .ptr 399 0, .ptr 408 0, .ptr 417 0], 136, 1, none⟩),
e 420 139,
(422, ⟨[.ptr 294 0, .ptr 303 0, .ptr 312 0, .ptr 321 0, .ptr 330 0, .ptr 339 0, .ptr 348 0, .ptr 357 0, .ptr 366 0, .ptr 375 0, .ptr 384 0, .ptr 393 0, .ptr 402 0, .ptr 411 0, .ptr 420 0], 136, 1, none⟩),
(424, ⟨[.int .u64 (.ofNat 31)], 224, 1, none⟩),
(643, ⟨[.int .u64 (.ofNat 8)], 224, 1, none⟩),
(1046, ⟨[.int .u64 (.ofNat 64)], 224, 1, none⟩),
(1459, ⟨[.int .u64 (.ofNat 512)], 224, 1, none⟩),
(1882, ⟨[.int .u64 (.ofNat 4096)], 224, 1, none⟩)]
private noncomputable abbrev l3 : Bls := [(1, ⟨[i 0, i 0, i 0, i 0, i 1, i 0], 69, 0, none⟩),
(2, ⟨[f 1 0 3], 47, 0, none⟩),
(4, ⟨[i 1, i 0], 69, 0, none⟩),
(5, ⟨[i 0, i 0], 69, 0, none⟩),
(7, ⟨[i 1, i 0], 69, 0, none⟩),
(9, ⟨[.snil, i 0, i 0, f 4 0 1, i 0, i 0, f 5 0 1, i 0, i 0, f 7 0 1, i 1, i 0], 72, 0, none⟩),
(10, ⟨[i 0], 3, 0, none⟩),
(11, ⟨[f 10 0 1], 74, 0, none⟩),
(12, ⟨[f 2 0 1, f 9 0 4, f 11 0 1, .snil, o 75 0 5, i 0], 57, 0, none⟩),
(20, ⟨[i 0, i 0, i 1, i 0], 69, 2, none⟩),
(21, ⟨[o 31 0 3, i 3, i 0, i 0, i 0], 46, 0, none⟩),
(28, ⟨[i 1], 3, 0, none⟩),
(31, ⟨[i 1, i 0, i 0, i 0, i 1, .snil, i 4, i 1, i 0, i 0, i 0, .snil, i 12, i 0, i 0, i 0, i 1, f 28 0 1], 29, 6, none⟩),
(36, ⟨[i 1, i 0, i 0, i 0], 69, 2, none⟩),
(37, ⟨[o 43 0 1, i 3, i 1, i 0, i 0], 46, 0, none⟩),
(40, ⟨[i 0], 3, 0, none⟩),
(43, ⟨[i 12, i 1, i 0, i 0, i 2, f 40 0 1], 29, 6, none⟩),
(48, ⟨[i 1, i 0, i 0, i 0], 69, 2, none⟩),
(49, ⟨[o 55 0 1, i 3, i 1, i 0, i 0], 46, 0, none⟩),
(52, ⟨[i 0], 3, 0, none⟩),
(55, ⟨[i 12, i 1, i 0, i 0, i 3, f 52 0 1], 29, 6, none⟩),
(60, ⟨[i 1, i 0, i 0, i 0], 69, 2, none⟩),
(61, ⟨[o 67 0 1, i 3, i 1, i 0, i 0], 46, 0, none⟩),
(64, ⟨[i 0], 3, 0, none⟩),
(67, ⟨[i 12, i 1, i 0, i 0, i 4, f 64 0 1], 29, 6, none⟩),
(72, ⟨[i 1, i 0, i 0, i 0], 69, 2, none⟩),
(73, ⟨[o 78 0 1, i 3, i 1, i 0, i 0], 46, 0, none⟩),
(75, ⟨[i 0, o 20 0 2, f 21 0 1, i 1, o 36 0 2, f 37 0 1, i 1, o 48 0 2, f 49 0 1, i 1, o 60 0 2, f 61 0 1, i 1, o 72 0 2, f 73 0 1], 50, 3, none⟩),
(78, ⟨[i 7, i 1, i 0, i 0, i 0, .snil], 29, 6, none⟩),
(106, ⟨[o 162 0 5, o 166 0 5, .snil, .snil, .snil, i 15], 230, 0, none⟩),
(112, ⟨[i 0, i 1], 3, 1, none⟩),
(124, ⟨[i 3, i 4], 3, 1, none⟩),
(136, ⟨[i 6, i 7], 3, 1, none⟩),
(148, ⟨[i 9, i 10], 3, 1, none⟩),
(160, ⟨[i 12, i 13], 3, 1, none⟩),
(162, ⟨[o 112 0 2, o 124 0 2, o 136 0 2, o 148 0 2, o 160 0 2], 27, 1, none⟩),
(166, ⟨[i 2, i 5, i 8, i 11, i 14], 3, 1, none⟩),
(251, ⟨[o 281 0 15], 233, 0, none⟩),
(281, ⟨[i 0, i 1, i 2, i 3, i 4, i 5, i 6, i 7, i 8, i 9, i 10, i 11, i 12, i 13, i 14], 3, 1, none⟩),
(282, ⟨[.snil, .snil, .snil, .snil, .snil, .snil, .snil, .snil, .snil, .snil, .snil, .snil, .snil, .snil, .snil], 238, 0, none⟩),
(283, ⟨[o 424 0 1], 139, 0, none⟩),
(284, ⟨[], 0, 0, some (.map [(0, .agg [i 2, i 1], .c (.bool true)), (1, .agg [i 4, i 2], .c (.bool true)), (2, .agg [i 6, i 3], .c (.bool true)), (3, .agg [i 8, i 4], .c (.bool true))] 4)⟩),
(285, ⟨[], 0, 0, some (.map [] 0)⟩),
(286, ⟨[.snil, .snil, .map 285, i 0], 237, 0, none⟩),
(287, ⟨[.ptr 12 0, .ptr 106 0, .ptr 251 0, o 416 0 15, o 419 0 15, o 422 0 15, f 282 0 15, .ptr 283 0, .map 284, .ptr 286 0], 145, 0, none⟩),
e 288 139,
e 291 139,
e 294 139,
e 297 139,
e 300 139,
(303, ⟨[o 643 0 1], 139, 0, none⟩),
e 306 139,
e 309 139,
e 312 139,
e 315 139,
e 318 139,
(321, ⟨[o 1046 0 1], 139, 0, none⟩),
e 324 139,
e 327 139,
e 330 139,
e 333 139,
e 336 139,
e 339 139,
e 342 139,
e 345 139,
(348, ⟨[o 1459 0 1], 139, 0, none⟩),
e 351 139,
e 354 139,
e 357 139,
e 360 139,
e 363 139,
e 366 139,
e 369 139,
e 372 139,
(375, ⟨[o 1882 0 1], 139, 0, none⟩),
e 378 139,
e 381 139,
e 384 139,
e 387 139,
e 390 139,
e 393 139,
e 396 139,
e 399 139,
e 402 139,
e 405 139,
e 408 139,
e 411 139,
e 414 139,
(416, ⟨[.ptr 288 0, .ptr 297 0, .ptr 306 0, .ptr 315 0, .ptr 324 0, .ptr 333 0, .ptr 342 0, .ptr 351 0, .ptr 360 0, .ptr 369 0, .ptr 378 0, .ptr 387 0, .ptr 396 0, .ptr 405 0, .ptr 414 0], 136, 1, none⟩),
e 417 139,
(419, ⟨[.ptr 291 0, .ptr 300 0, .ptr 309 0, .ptr 318 0, .ptr 327 0, .ptr 336 0, .ptr 345 0, .ptr 354 0, .ptr 363 0, .ptr 372 0, .ptr 381 0, .ptr 390 0, .ptr 399 0, .ptr 408 0, .ptr 417 0], 136, 1, none⟩),
e 420 139,
(422, ⟨[.ptr 294 0, .ptr 303 0, .ptr 312 0, .ptr 321 0, .ptr 330 0, .ptr 339 0, .ptr 348 0, .ptr 357 0, .ptr 366 0, .ptr 375 0, .ptr 384 0, .ptr 393 0, .ptr 402 0, .ptr 411 0, .ptr 420 0], 136, 1, none⟩),
(424, ⟨[.int .u64 (.ofNat 31)], 224, 1, none⟩),
(643, ⟨[.int .u64 (.ofNat 8)], 224, 1, none⟩),
(1046, ⟨[.int .u64 (.ofNat 64)], 224, 1, none⟩),
(1459, ⟨[.int .u64 (.ofNat 512)], 224, 1, none⟩),
(1882, ⟨[.int .u64 (.ofNat 4096)], 224, 1, none⟩)]
private noncomputable abbrev l4 : Bls := [(3157, ⟨[], 0, 0, some (.map [(0, .agg [i 1, i 1, i 0, i 0, i 0], .c (o 4739 0 1)), (1, .agg [i 5, i 1, i 0, i 0, i 0], .c (o 4744 0 1)), (2, .agg [i 1, i 2, i 0, i 0, i 0], .c (o 4769 0 1)), (3, .agg [i 2, i 1, i 0, i 0, i 0], .c (o 4795 0 1)), (4, .agg [i 5, i 2, i 0, i 0, i 0], .c (o 4800 0 1)), (5, .agg [i 1, i 4, i 0, i 0, i 0], .c (o 4825 0 1)), (6, .agg [i 2, i 2, i 0, i 0, i 0], .c (o 4851 0 1)), (7, .agg [i 5, i 3, i 0, i 0, i 0], .c (o 4856 0 1)), (8, .agg [i 1, i 6, i 0, i 0, i 0], .c (o 4881 0 1)), (9, .agg [i 2, i 3, i 0, i 0, i 0], .c (o 4907 0 1)), (10, .agg [i 5, i 4, i 0, i 0, i 0], .c (o 4912 0 1)), (11, .agg [i 1, i 8, i 0, i 0, i 0], .c (o 4937 0 1)), (12, .agg [i 1, i 10, i 0, i 0, i 0], .c (o 4973 0 1))] 13)⟩),
(3158, ⟨[.map 3157, .md 1 (.ofNat 0) true], 155, 0, none⟩),
(4739, ⟨[i 2, i 1, i 0, i 0, i 0], 116, 5, none⟩),
(4744, ⟨[i 1, i 2, i 0, i 0, i 0], 116, 5, none⟩),
(4769, ⟨[i 5, i 0, i 0, i 0, i 0], 116, 5, none⟩),
(4795, ⟨[i 2, i 2, i 0, i 0, i 0], 116, 5, none⟩),
(4800, ⟨[i 1, i 4, i 0, i 0, i 0], 116, 5, none⟩),
(4825, ⟨[i 5, i 1, i 0, i 0, i 0], 116, 5, none⟩),
(4851, ⟨[i 2, i 3, i 0, i 0, i 0], 116, 5, none⟩),
(4856, ⟨[i 1, i 6, i 0, i 0, i 0], 116, 5, none⟩),
(4881, ⟨[i 5, i 2, i 0, i 0, i 0], 116, 5, none⟩),
(4907, ⟨[i 2, i 4, i 0, i 0, i 0], 116, 5, none⟩),
(4912, ⟨[i 1, i 8, i 0, i 0, i 0], 116, 5, none⟩),
(4937, ⟨[i 5, i 3, i 0, i 0, i 0], 116, 5, none⟩),
(4973, ⟨[i 5, i 4, i 0, i 0, i 0], 116, 5, none⟩)]
private noncomputable def m0 : MM := ⟨[48], l0, 106, [⟨48, 0, [.v (.c (.ptr 12 0))], .v (.c (.nili))⟩]⟩
private theorem m0_k : H0.tbl m0 = true := by kernel_rfl
private noncomputable def h1 : HK := H0.memo m0 m0_k
private noncomputable def m1 : MM := ⟨[155], l1, 193, [⟨155, 0, [.v (.c (.ptr 12 0)), .v (.c (i 0))], .tup [.agg [i 0, i 0, i 0], .c (.bool true)]⟩,
⟨155, 1, [.v (.c (.ptr 12 0)), .v (.c (i 1))], .tup [.agg [i 0, i 0, i 1], .c (.bool true)]⟩,
⟨155, 2, [.v (.c (.ptr 12 0)), .v (.c (i 2))], .tup [.agg [i 0, i 0, i 2], .c (.bool true)]⟩,
⟨155, 3, [.v (.c (.ptr 12 0)), .v (.c (i 3))], .tup [.agg [i 0, i 0, i 3], .c (.bool true)]⟩,
⟨155, 4, [.v (.c (.ptr 12 0)), .v (.c (i 4))], .tup [.agg [i 1, i 0, i 0], .c (.bool true)]⟩,
⟨155, 5, [.v (.c (.ptr 12 0)), .v (.c (i 5))], .tup [.agg [i 1, i 0, i 1], .c (.bool true)]⟩,
⟨155, 6, [.v (.c (.ptr 12 0)), .v (.c (i 6))], .tup [.agg [i 2, i 0, i 0], .c (.bool true)]⟩,
⟨155, 7, [.v (.c (.ptr 12 0)), .v (.c (i 7))], .tup [.agg [i 2, i 0, i 1], .c (.bool true)]⟩,
⟨155, 8, [.v (.c (.ptr 12 0)), .v (.c (i 8))], .tup [.agg [i 3, i 0, i 0], .c (.bool true)]⟩,
⟨155, 9, [.v (.c (.ptr 12 0)), .v (.c (i 9))], .tup [.agg [i 3, i 0, i 1], .c (.bool true)]⟩,
⟨155, 10, [.v (.c (.ptr 12 0)), .v (.c (i 10))], .tup [.agg [i 4, i 0, i 0], .c (.bool true)]⟩,
⟨155, 11, [.v (.c (.ptr 12 0)), .v (.c (i 11))], .tup [.agg [i 4, i 0, i 1], .c (.bool true)]⟩]⟩
private theorem m1_k : h1.tbl m1 = true := by kernel_rfl
private noncomputable def h2 : HK := h1.memo m1 m1_k
private noncomputable def s1 : RE := ⟨76, [.v (.c (.ptr 12 0))], 106, .v (.c (.ptr 106 0)), [(106, ⟨[o 162 0 5, o 166 0 5, .snil, .snil, .snil, i 15], 230, 0, none⟩),
(112, ⟨[i 0, i 1], 3, 1, none⟩),
(124, ⟨[i 3, i 4], 3, 1, none⟩),
(136, ⟨[i 6, i 7], 3, 1, none⟩),
(148, ⟨[i 9, i 10], 3, 1, none⟩),
(160, ⟨[i 12, i 13], 3, 1, none⟩),
(162, ⟨[o 112 0 2, o 124 0 2, o 136 0 2, o 148 0 2, o 160 0 2], 27, 1, none⟩),
(166, ⟨[i 2, i 5, i 8, i 11, i 14], 3, 1, none⟩)], 251⟩
private theorem s1_k : h2.srp l0 s1 = true := by kernel_rfl
private noncomputable def h3 : HK := h2.srep _ s1 s1_k
private noncomputable def s2 : RE := ⟨49, [.v (.c (.ptr 12 0)), .v (.c (.snil))], 106, .v (.c (.ptr 287 0)), l2, 2511⟩
private theorem s2_k : h3.rep l0 s2 = true := by kernel_rfl
private noncomputable def h4 : HK := h3.repl _ s2 s2_k
private noncomputable def s3 : RE := ⟨151, [.v (.c (.ptr 12 0)), .v (.c (.ptr 287 0)), .v (.c (i 2))], 2656, .v (.c (.snil)), [], 2773⟩
private theorem s3_k : h4.srp l3 s3 = true := by kernel_rfl
private noncomputable def h5 : HK := h4.srep _ s3 s3_k
private noncomputable def s4 : RE := ⟨151, [.v (.c (.ptr 12 0)), .v (.c (.ptr 287 0)), .v (.c (i 4))], 2789, .v (.c (.snil)), [], 2897⟩
private theorem s4_k : h5.srp l3 s4 = true := by kernel_rfl
private noncomputable def h6 : HK := h5.srep _ s4 s4_k
private noncomputable def s5 : RE := ⟨151, [.v (.c (.ptr 12 0)), .v (.c (.ptr 287 0)), .v (.c (i 6))], 2913, .v (.c (.snil)), [], 3012⟩
private theorem s5_k : h6.srp l3 s5 = true := by kernel_rfl
private noncomputable def h7 : HK := h6.srep _ s5 s5_k
private noncomputable def s6 : RE := ⟨151, [.v (.c (.ptr 12 0)), .v (.c (.ptr 287 0)), .v (.c (i 8))], 3028, .v (.c (.snil)), [], 3118⟩
private theorem s6_k : h7.srp l3 s6 = true := by kernel_rfl
private noncomputable def h8 : HK := h7.srep _ s6 s6_k
private noncomputable def s7 : RE := ⟨85, [.v (.c (.ptr 12 0)), .v (.c (.ptr 287 0)), .v (.c (i 0))], 3160, .v (.c (.snil)), [], 3409⟩
private theorem s7_k : h8.srp l3 s7 = true := by kernel_rfl
private noncomputable def h9 : HK := h8.srep _ s7 s7_k
private noncomputable def s8 : RE := ⟨86, [.v (.c (.ptr 12 0)), .v (.c (.ptr 287 0)), .v (.c (i 0))], 3411, .v (.c (.snil)), [], 3533⟩
private theorem s8_k : h9.srp l3 s8 = true := by kernel_rfl
private noncomputable def h10 : HK := h9.srep _ s8 s8_k
private noncomputable def s9 : RE := ⟨85, [.v (.c (.ptr 12 0)), .v (.c (.ptr 287 0)), .v (.c (i 1))], 3535, .v (.c (.snil)), [], 3750⟩
private theorem s9_k : h10.srp l3 s9 = true := by kernel_rfl
private noncomputable def h11 : HK := h10.srep _ s9 s9_k
private noncomputable def s10 : RE := ⟨86, [.v (.c (.ptr 12 0)), .v (.c (.ptr 287 0)), .v (.c (i 1))], 3752, .v (.c (.snil)), [], 3857⟩
private theorem s10_k : h11.srp l3 s10 = true := by kernel_rfl
private noncomputable def h12 : HK := h11.srep _ s10 s10_k
private noncomputable def s11 : RE := ⟨85, [.v (.c (.ptr 12 0)), .v (.c (.ptr 287 0)), .v (.c (i 2))], 3859, .v (.c (.snil)), [], 4056⟩
private theorem s11_k : h12.srp l3 s11 = true := by kernel_rfl
private noncomputable def h13 : HK := h12.srep _ s11 s11_k
private noncomputable def s12 : RE := ⟨86, [.v (.c (.ptr 12 0)), .v (.c (.ptr 287 0)), .v (.c (i 2))], 4058, .v (.c (.snil)), [], 4154⟩
private theorem s12_k : h13.srp l3 s12 = true := by kernel_rfl
private noncomputable def h14 : HK := h13.srep _ s12 s12_k
private noncomputable def s13 : RE := ⟨85, [.v (.c (.ptr 12 0)), .v (.c (.ptr 287 0)), .v (.c (i 3))], 4156, .v (.c (.snil)), [], 4335⟩
private theorem s13_k : h14.srp l3 s13 = true := by kernel_rfl
private noncomputable def h15 : HK := h14.srep _ s13 s13_k
private noncomputable def s14 : RE := ⟨86, [.v (.c (.ptr 12 0)), .v (.c (.ptr 287 0)), .v (.c (i 3))], 4337, .v (.c (.snil)), [], 4424⟩
private theorem s14_k : h15.srp l3 s14 = true := by kernel_rfl
private noncomputable def h16 : HK := h15.srep _ s14 s14_k
private noncomputable def s15 : RE := ⟨85, [.v (.c (.ptr 12 0)), .v (.c (.ptr 287 0)), .v (.c (i 4))], 4426, .v (.c (.snil)), [], 4587⟩
private theorem s15_k : h16.srp l3 s15 = true := by kernel_rfl
private noncomputable def h17 : HK := h16.srep _ s15 s15_k
private noncomputable def s16 : RE := ⟨86, [.v (.c (.ptr 12 0)), .v (.c (.ptr 287 0)), .v (.c (i 4))], 4589, .v (.c (.snil)), [], 4667⟩
private theorem s16_k : h17.srp l3 s16 = true := by kernel_rfl
private noncomputable def h18 : HK := h17.srep _ s16 s16_k
private noncomputable def s17 : RE := ⟨50, [.v (.c (.ptr 12 0)), .v (.c (.ptr 287 0))], 2511, .v (.c (.ptr 3158 0)), l4, 4975⟩
private theorem s17_k : h18.rep l3 s17 = true := by kernel_rfl
private noncomputable def h19 : HK := h18.repl _ s17 s17_k
theorem TopNilParam_3_t_run : isBool true (runW h19.K 12 [mi 8 3, ab true] s0) = true := by kernel_rfl
theorem TopNilParam_3_t_law {args : Array Value} (ha : VAs (fun _ => none) [mi 8 3, ab true] args.toList) (w : World) (hT : Tab w) :
    Calls Tryz.prog 12 args w fun e w' => Below w.heap.size w w' ∧ e = .returned (.bool true) := h19.law TopNilParam_3_t_run ha w hT
end Go.Proofs.YteajpblmbmncdaaGreatDoor
