/- Tables of calls, and a run that uses them. -/
import Derived.Test.YteajpblmbmncdaaGreatDoorLn
namespace Go.Proofs.YteajpblmbmncdaaGreatDoor
open Go Go.RowKit Ev
set_option maxRecDepth 100000
set_option linter.unusedVariables false
private noncomputable abbrev i (n : Nat) : CV := .int .i64 (.ofNat n)
private noncomputable abbrev o (b a n : Nat) : CV := .slice b a n (.opn 0)
private noncomputable abbrev f (b a n : Nat) : CV := .slice b a n (.fix n)
private noncomputable abbrev e (k t : Nat) : Nat × BK := (k, ⟨[.snil], t, 0, none⟩)
private noncomputable abbrev l0 : Bls := [(1, ⟨[i 0, i 0, i 0, i 0, i 1, i 0], 69, 0, none⟩),
(2, ⟨[f 1 0 3], 47, 0, none⟩),
(4, ⟨[i 1, i 0], 69, 0, none⟩),
(5, ⟨[i 0, i 0], 69, 0, none⟩),
(7, ⟨[i 1, i 0], 69, 0, none⟩),
(9, ⟨[.snil, i 0, i 0, f 4 0 1, i 0, i 0, f 5 0 1, i 0, i 0, f 7 0 1, i 1, i 0], 72, 0, none⟩),
(10, ⟨[i 0], 3, 0, none⟩),
(11, ⟨[f 10 0 1], 74, 0, none⟩),
(12, ⟨[f 2 0 1, f 9 0 4, f 11 0 1, .snil, o 86 0 6, i 0], 57, 0, none⟩),
(19, ⟨[i 0, i 0, i 0, i 0], 69, 2, none⟩),
(20, ⟨[o 30 0 3, i 3, i 0, i 0, i 0], 46, 0, none⟩),
(26, ⟨[i 0], 3, 0, none⟩),
(30, ⟨[i 1, i 0, i 0, i 0, i 5, .snil, i 12, i 1, i 0, i 0, i 1, f 26 0 1, i 15, i 0, i 1, i 0, i 0, .snil], 29, 6, none⟩),
(35, ⟨[i 0, i 0, i 0, i 0], 69, 2, none⟩),
(36, ⟨[o 42 0 1, i 3, i 0, i 0, i 0], 46, 0, none⟩),
(39, ⟨[i 0], 3, 0, none⟩),
(42, ⟨[i 12, i 0, i 0, i 0, i 2, f 39 0 1], 29, 6, none⟩),
(47, ⟨[i 0, i 0, i 0, i 0], 69, 2, none⟩),
(48, ⟨[o 54 0 1, i 3, i 0, i 0, i 0], 46, 0, none⟩),
(51, ⟨[i 0], 3, 0, none⟩),
(54, ⟨[i 12, i 0, i 0, i 0, i 3, f 51 0 1], 29, 6, none⟩),
(59, ⟨[i 0, i 0, i 0, i 0], 69, 2, none⟩),
(60, ⟨[o 66 0 1, i 3, i 0, i 0, i 0], 46, 0, none⟩),
(63, ⟨[i 0], 3, 0, none⟩),
(66, ⟨[i 12, i 0, i 0, i 0, i 4, f 63 0 1], 29, 6, none⟩),
(71, ⟨[i 0, i 0, i 0, i 0], 69, 2, none⟩),
(72, ⟨[o 78 0 1, i 3, i 0, i 0, i 0], 46, 0, none⟩),
(75, ⟨[i 0], 3, 0, none⟩),
(78, ⟨[i 12, i 0, i 0, i 0, i 5, f 75 0 1], 29, 6, none⟩),
(83, ⟨[i 0, i 0, i 0, i 0], 69, 2, none⟩),
(84, ⟨[.snil, i 3, i 0, i 0, i 0], 46, 0, none⟩),
(86, ⟨[i 0, o 19 0 2, f 20 0 1, i 2, o 35 0 2, f 36 0 1, i 2, o 47 0 2, f 48 0 1, i 2, o 59 0 2, f 60 0 1, i 2, o 71 0 2, f 72 0 1, i 2, o 83 0 2, f 84 0 1], 50, 3, none⟩)]
private noncomputable abbrev l1 : Bls := [(12, ⟨[f 2 0 1, f 9 0 4, f 11 0 1, .snil, o 86 0 6, i 0], 57, 0, none⟩),
(20, ⟨[o 30 0 3, i 3, i 0, i 0, i 0], 46, 0, none⟩),
(36, ⟨[o 42 0 1, i 3, i 0, i 0, i 0], 46, 0, none⟩),
(48, ⟨[o 54 0 1, i 3, i 0, i 0, i 0], 46, 0, none⟩),
(60, ⟨[o 66 0 1, i 3, i 0, i 0, i 0], 46, 0, none⟩),
(72, ⟨[o 78 0 1, i 3, i 0, i 0, i 0], 46, 0, none⟩),
(84, ⟨[.snil, i 3, i 0, i 0, i 0], 46, 0, none⟩),
(86, ⟨[i 0, o 19 0 2, f 20 0 1, i 2, o 35 0 2, f 36 0 1, i 2, o 47 0 2, f 48 0 1, i 2, o 59 0 2, f 60 0 1, i 2, o 71 0 2, f 72 0 1, i 2, o 83 0 2, f 84 0 1], 50, 3, none⟩)]
private noncomputable abbrev l2 : Bls := [(87, ⟨[o 155 0 6, o 159 0 6, .snil, .snil, .snil, i 18], 230, 0, none⟩),
(93, ⟨[i 0, i 1], 3, 1, none⟩),
(105, ⟨[i 3, i 4], 3, 1, none⟩),
(117, ⟨[i 6, i 7], 3, 1, none⟩),
(129, ⟨[i 9, i 10], 3, 1, none⟩),
(141, ⟨[i 12, i 13], 3, 1, none⟩),
(153, ⟨[i 15, i 16], 3, 1, none⟩),
(155, ⟨[o 93 0 2, o 105 0 2, o 117 0 2, o 129 0 2, o 141 0 2, o 153 0 2], 27, 1, none⟩),
(159, ⟨[i 2, i 5, i 8, i 11, i 14, i 17], 3, 1, none⟩)]
private noncomputable abbrev l3 : Bls := [(87, ⟨[o 155 0 6, o 159 0 6, .snil, .snil, .snil, i 18], 230, 0, none⟩),
(93, ⟨[i 0, i 1], 3, 1, none⟩),
(105, ⟨[i 3, i 4], 3, 1, none⟩),
(117, ⟨[i 6, i 7], 3, 1, none⟩),
(129, ⟨[i 9, i 10], 3, 1, none⟩),
(141, ⟨[i 12, i 13], 3, 1, none⟩),
(153, ⟨[i 15, i 16], 3, 1, none⟩),
(155, ⟨[o 93 0 2, o 105 0 2, o 117 0 2, o 129 0 2, o 141 0 2, o 153 0 2], 27, 1, none⟩),
(159, ⟨[i 2, i 5, i 8, i 11, i 14, i 17], 3, 1, none⟩),
(251, ⟨[o 287 0 18], 233, 0, none⟩),
(287, ⟨[i 0, i 1, i 2, i 3, i 4, i 5, i 6, i 7, i 8, i 9, i 10, i 11, i 12, i 13, i 14, i 15, i 16, i 17], 3, 1, none⟩),
(288, ⟨[.snil, .snil, .snil, .snil, .snil, .snil, .snil, .snil, .snil, .snil, .snil, .snil, .snil, .snil, .snil, .snil, .snil, .snil], 238, 0, none⟩),
(289, ⟨[o 457 0 1], 139, 0, none⟩),
(290, ⟨[], 0, 0, some (.map [(0, .agg [i 1, i 1], .c (.bool true)), (1, .agg [i 4, i 2], .c (.bool true)), (2, .agg [i 6, i 3], .c (.bool true)), (3, .agg [i 8, i 4], .c (.bool true)), (4, .agg [i 10, i 5], .c (.bool true))] 5)⟩),
(291, ⟨[], 0, 0, some (.map [] 0)⟩),
(292, ⟨[.snil, .snil, .map 291, i 0], 237, 0, none⟩),
(293, ⟨[.ptr 12 0, .ptr 87 0, .ptr 251 0, o 449 0 18, o 452 0 18, o 455 0 18, f 288 0 18, .ptr 289 0, .map 290, .ptr 292 0], 145, 0, none⟩),
e 294 139,
e 297 139,
e 300 139,
e 303 139,
e 306 139,
e 309 139,
e 312 139,
e 315 139,
e 318 139,
e 321 139,
e 324 139,
e 327 139,
e 330 139,
e 333 139,
e 336 139,
e 339 139,
e 342 139,
e 345 139,
e 348 139,
e 351 139,
e 354 139,
e 357 139,
e 360 139,
e 363 139,
e 366 139,
e 369 139,
e 372 139,
e 375 139,
e 378 139,
e 381 139,
e 384 139,
e 387 139,
e 390 139,
e 393 139,
e 396 139,
e 399 139,
e 402 139,
e 405 139,
e 408 139,
e 411 139,
e 414 139,
e 417 139,
e 420 139,
e 423 139,
e 426 139,
e 429 139,
e 432 139,
e 435 139,
e 438 139,
e 441 139,
e 444 139,
e 447 139,
(449, ⟨[.ptr 294 0, .ptr 303 0, .ptr 312 0, .ptr 321 0, .ptr 330 0, .ptr 339 0, .ptr 348 0, .ptr 357 0, .ptr 366 0, .ptr 375 0, .ptr 384 0, .ptr 393 0, .ptr 402 0, .ptr 411 0, .ptr 420 0, .ptr 429 0, .ptr 438 0, .ptr 447 0], 136, 1, none⟩),
e 450 139,
(452, ⟨[.ptr 297 0, .ptr 306 0, .ptr 315 0, .ptr 324 0, .ptr 333 0, .ptr 342 0, .ptr 351 0, .ptr 360 0, .ptr 369 0, .ptr 378 0, .ptr 387 0, .ptr 396 0, .ptr 405 0, .ptr 414 0, .ptr 423 0, .ptr 432 0, .ptr 441 0, .ptr 450 0], 136, 1, none⟩),
e 453 139,
(455, ⟨[.ptr 300 0, .ptr 309 0, .ptr 318 0, .ptr 327 0, .ptr 336 0, .ptr 345 0, .ptr 354 0, .ptr 363 0, .ptr 372 0, .ptr 381 0, .ptr 390 0, .ptr 399 0, .ptr 408 0, .ptr 417 0, .ptr 426 0, .ptr 435 0, .ptr 444 0, .ptr 453 0], 136, 1, none⟩),
(457, ⟨[.int .u64 (.ofNat 63)], 224, 1, none⟩)]
private noncomputable abbrev l4 : Bls := [(1, ⟨[i 0, i 0, i 0, i 0, i 1, i 0], 69, 0, none⟩),
(2, ⟨[f 1 0 3], 47, 0, none⟩),
(4, ⟨[i 1, i 0], 69, 0, none⟩),
(5, ⟨[i 0, i 0], 69, 0, none⟩),
(7, ⟨[i 1, i 0], 69, 0, none⟩),
(9, ⟨[.snil, i 0, i 0, f 4 0 1, i 0, i 0, f 5 0 1, i 0, i 0, f 7 0 1, i 1, i 0], 72, 0, none⟩),
(10, ⟨[i 0], 3, 0, none⟩),
(11, ⟨[f 10 0 1], 74, 0, none⟩),
(12, ⟨[f 2 0 1, f 9 0 4, f 11 0 1, .snil, o 86 0 6, i 0], 57, 0, none⟩),
(19, ⟨[i 0, i 0, i 0, i 0], 69, 2, none⟩),
(20, ⟨[o 30 0 3, i 3, i 0, i 0, i 0], 46, 0, none⟩),
(26, ⟨[i 0], 3, 0, none⟩),
(30, ⟨[i 1, i 0, i 0, i 0, i 5, .snil, i 12, i 1, i 0, i 0, i 1, f 26 0 1, i 15, i 0, i 1, i 0, i 0, .snil], 29, 6, none⟩),
(35, ⟨[i 0, i 0, i 0, i 0], 69, 2, none⟩),
(36, ⟨[o 42 0 1, i 3, i 0, i 0, i 0], 46, 0, none⟩),
(39, ⟨[i 0], 3, 0, none⟩),
(42, ⟨[i 12, i 0, i 0, i 0, i 2, f 39 0 1], 29, 6, none⟩),
(47, ⟨[i 0, i 0, i 0, i 0], 69, 2, none⟩),
(48, ⟨[o 54 0 1, i 3, i 0, i 0, i 0], 46, 0, none⟩),
(51, ⟨[i 0], 3, 0, none⟩),
(54, ⟨[i 12, i 0, i 0, i 0, i 3, f 51 0 1], 29, 6, none⟩),
(59, ⟨[i 0, i 0, i 0, i 0], 69, 2, none⟩),
(60, ⟨[o 66 0 1, i 3, i 0, i 0, i 0], 46, 0, none⟩),
(63, ⟨[i 0], 3, 0, none⟩),
(66, ⟨[i 12, i 0, i 0, i 0, i 4, f 63 0 1], 29, 6, none⟩),
(71, ⟨[i 0, i 0, i 0, i 0], 69, 2, none⟩),
(72, ⟨[o 78 0 1, i 3, i 0, i 0, i 0], 46, 0, none⟩),
(75, ⟨[i 0], 3, 0, none⟩),
(78, ⟨[i 12, i 0, i 0, i 0, i 5, f 75 0 1], 29, 6, none⟩),
(83, ⟨[i 0, i 0, i 0, i 0], 69, 2, none⟩),
(84, ⟨[.snil, i 3, i 0, i 0, i 0], 46, 0, none⟩),
(86, ⟨[i 0, o 19 0 2, f 20 0 1, i 2, o 35 0 2, f 36 0 1, i 2, o 47 0 2, f 48 0 1, i 2, o 59 0 2, f 60 0 1, i 2, o 71 0 2, f 72 0 1, i 2, o 83 0 2, f 84 0 1], 50, 3, none⟩),
(87, ⟨[o 155 0 6, o 159 0 6, .snil, .snil, .snil, i 18], 230, 0, none⟩),
(93, ⟨[i 0, i 1], 3, 1, none⟩),
(105, ⟨[i 3, i 4], 3, 1, none⟩),
(117, ⟨[i 6, i 7], 3, 1, none⟩),
(129, ⟨[i 9, i 10], 3, 1, none⟩),
(141, ⟨[i 12, i 13], 3, 1, none⟩),
(153, ⟨[i 15, i 16], 3, 1, none⟩),
(155, ⟨[o 93 0 2, o 105 0 2, o 117 0 2, o 129 0 2, o 141 0 2, o 153 0 2], 27, 1, none⟩),
(159, ⟨[i 2, i 5, i 8, i 11, i 14, i 17], 3, 1, none⟩),
(251, ⟨[o 287 0 18], 233, 0, none⟩),
(287, ⟨[i 0, i 1, i 2, i 3, i 4, i 5, i 6, i 7, i 8, i 9, i 10, i 11, i 12, i 13, i 14, i 15, i 16, i 17], 3, 1, none⟩),
(288, ⟨[.snil, .snil, .snil, .snil, .snil, .snil, .snil, .snil, .snil, .snil, .snil, .snil, .snil, .snil, .snil, .snil, .snil, .snil], 238, 0, none⟩),
(289, ⟨[o 457 0 1], 139, 0, none⟩),
(290, ⟨[], 0, 0, some (.map [(0, .agg [i 1, i 1], .c (.bool true)), (1, .agg [i 4, i 2], .c (.bool true)), (2, .agg [i 6, i 3], .c (.bool true)), (3, .agg [i 8, i 4], .c (.bool true)), (4, .agg [i 10, i 5], .c (.bool true))] 5)⟩),
(291, ⟨[], 0, 0, some (.map [] 0)⟩),
(292, ⟨[.snil, .snil, .map 291, i 0], 237, 0, none⟩),
(293, ⟨[.ptr 12 0, .ptr 87 0, .ptr 251 0, o 449 0 18, o 452 0 18, o 455 0 18, f 288 0 18, .ptr 289 0, .map 290, .ptr 292 0], 145, 0, none⟩),
e 294 139,
e 297 139,
e 300 139,
e 303 139,
e 306 139,
e 309 139,
e 312 139,
e 315 139,
e 318 139,
e 321 139,
e 324 139,
e 327 139,
e 330 139,
e 333 139,
e 336 139,
e 339 139,
e 342 139,
e 345 139,
e 348 139,
e 351 139,
e 354 139,
e 357 139,
e 360 139,
e 363 139,
e 366 139,
e 369 139,
e 372 139,
e 375 139,
e 378 139,
e 381 139,
e 384 139,
e 387 139,
e 390 139,
e 393 139,
e 396 139,
e 399 139,
e 402 139,
e 405 139,
e 408 139,
e 411 139,
e 414 139,
e 417 139,
e 420 139,
e 423 139,
e 426 139,
e 429 139,
e 432 139,
e 435 139,
e 438 139,
e 441 139,
e 444 139,
e 447 139,
(449, ⟨[.ptr 294 0, .ptr 303 0, .ptr 312 0, .ptr 321 0, .ptr 330 0, .ptr 339 0, .ptr 348 0, .ptr 357 0, .ptr 366 0, .ptr 375 0, .ptr 384 0, .ptr 393 0, .ptr 402 0, .ptr 411 0, .ptr 420 0, .ptr 429 0, .ptr 438 0, .ptr 447 0], 136, 1, none⟩),
e 450 139,
(452, ⟨[.ptr 297 0, .ptr 306 0, .ptr 315 0, .ptr 324 0, .ptr 333 0, .ptr 342 0, .ptr 351 0, .ptr 360 0, .ptr 369 0, .ptr 378 0, .ptr 387 0, .ptr 396 0, .ptr 405 0, .ptr 414 0, .ptr 423 0, .ptr 432 0, .ptr 441 0, .ptr 450 0], 136, 1, none⟩),
e 453 139,
(455, ⟨[.ptr 300 0, .ptr 309 0, .ptr 318 0, .ptr 327 0, .ptr 336 0, .ptr 345 0, .ptr 354 0, .ptr 363 0, .ptr 372 0, .ptr 381 0, .ptr 390 0, .ptr 399 0, .ptr 408 0, .ptr 417 0, .ptr 426 0, .ptr 435 0, .ptr 444 0, .ptr 453 0], 136, 1, none⟩),
(457, ⟨[.int .u64 (.ofNat 63)], 224, 1, none⟩)]
private noncomputable abbrev l5 : Bls := [(4011, ⟨[], 0, 0, some (.map [(0, .agg [i 1, i 0, i 0, i 0, i 0], .c (o 6042 0 2)), (1, .agg [i 5, i 1, i 0, i 0, i 0], .c (o 5996 0 1)), (2, .agg [i 2, i 1, i 0, i 0, i 0], .c (o 6069 0 1)), (3, .agg [i 5, i 2, i 0, i 0, i 0], .c (o 6074 0 1)), (4, .agg [i 1, i 4, i 0, i 0, i 0], .c (o 6099 0 1)), (5, .agg [i 2, i 2, i 0, i 0, i 0], .c (o 6126 0 1)), (6, .agg [i 5, i 3, i 0, i 0, i 0], .c (o 6131 0 1)), (7, .agg [i 1, i 6, i 0, i 0, i 0], .c (o 6156 0 1)), (8, .agg [i 2, i 3, i 0, i 0, i 0], .c (o 6183 0 1)), (9, .agg [i 5, i 4, i 0, i 0, i 0], .c (o 6188 0 1)), (10, .agg [i 1, i 8, i 0, i 0, i 0], .c (o 6213 0 1)), (11, .agg [i 2, i 4, i 0, i 0, i 0], .c (o 6240 0 1)), (12, .agg [i 5, i 5, i 0, i 0, i 0], .c (o 6245 0 1)), (13, .agg [i 1, i 10, i 0, i 0, i 0], .c (o 6270 0 1)), (14, .agg [i 2, i 5, i 0, i 0, i 0], .c (o 6287 0 1))] 15)⟩),
(4012, ⟨[.map 4011, .md 1 (.ofNat 0) true], 155, 0, none⟩),
(5996, ⟨[i 1, i 1, i 0, i 0, i 0], 116, 5, none⟩),
(6042, ⟨[i 2, i 1, i 0, i 0, i 0, i 5, i 0, i 0, i 0, i 0], 116, 5, none⟩),
(6069, ⟨[i 2, i 2, i 0, i 0, i 0], 116, 5, none⟩),
(6074, ⟨[i 1, i 4, i 0, i 0, i 0], 116, 5, none⟩),
(6099, ⟨[i 5, i 1, i 0, i 0, i 0], 116, 5, none⟩),
(6126, ⟨[i 2, i 3, i 0, i 0, i 0], 116, 5, none⟩),
(6131, ⟨[i 1, i 6, i 0, i 0, i 0], 116, 5, none⟩),
(6156, ⟨[i 5, i 2, i 0, i 0, i 0], 116, 5, none⟩),
(6183, ⟨[i 2, i 4, i 0, i 0, i 0], 116, 5, none⟩),
(6188, ⟨[i 1, i 8, i 0, i 0, i 0], 116, 5, none⟩),
(6213, ⟨[i 5, i 3, i 0, i 0, i 0], 116, 5, none⟩),
(6240, ⟨[i 2, i 5, i 0, i 0, i 0], 116, 5, none⟩),
(6245, ⟨[i 1, i 10, i 0, i 0, i 0], 116, 5, none⟩),
(6270, ⟨[i 5, i 4, i 0, i 0, i 0], 116, 5, none⟩),
(6287, ⟨[i 5, i 5, i 0, i 0, i 0], 116, 5, none⟩)]
private noncomputable def m0 : MM := ⟨[48], l0, 87, [⟨48, 0, [.v (.c (.ptr 12 0))], .v (.c (.nili))⟩]⟩
private theorem m0_k : H0.tbl m0 = true := by kernel_rfl
private noncomputable def h1 : HK := H0.memo m0 m0_k
private noncomputable def m1 : MM := ⟨[155], l1, 188, [⟨155, 0, [.v (.c (.ptr 12 0)), .v (.c (i 0))], .tup [.agg [i 0, i 0, i 0], .c (.bool true)]⟩,
⟨155, 1, [.v (.c (.ptr 12 0)), .v (.c (i 1))], .tup [.agg [i 0, i 0, i 1], .c (.bool true)]⟩,
⟨155, 2, [.v (.c (.ptr 12 0)), .v (.c (i 2))], .tup [.agg [i 0, i 0, i 2], .c (.bool true)]⟩,
⟨155, 3, [.v (.c (.ptr 12 0)), .v (.c (i 3))], .tup [.agg [i 0, i 0, i 3], .c (.bool true)]⟩,
⟨155, 4, [.v (.c (.ptr 12 0)), .v (.c (i 4))], .tup [.agg [i 1, i 0, i 0], .c (.bool true)]⟩,
⟨155, 5, [.v (.c (.ptr 12 0)), .v (.c (i 5))], .tup [.agg [i 1, i 0, i 1], .c (.bool true)]⟩,
⟨155, 6, [.v (.c (.ptr 12 0)), .v (.c (i 6))], .tup [.agg [i 2, i 0, i 0], .c (.bool true)]⟩,
⟨155, 7, [.v (.c (.ptr 12 0)), .v (.c (i 7))], .tup [.agg [i 2, i 0, i 1], .c (.bool true)]⟩,
⟨155, 8, [.v (.c (.ptr 12 0)), .v (.c (i 8))], .tup [.agg [i 3, i 0, i 0], .c (.bool true)]⟩,
⟨155, 9, [.v (.c (.ptr 12 0)), .v (.c (i 9))], .tup [.agg [i 3, i 0, i 1], .c (.bool true)]⟩,
⟨155, 10, [.v (.c (.ptr 12 0)), .v (.c (i 10))], .tup [.agg [i 4, i 0, i 0], .c (.bool true)]⟩,
⟨155, 11, [.v (.c (.ptr 12 0)), .v (.c (i 11))], .tup [.agg [i 4, i 0, i 1], .c (.bool true)]⟩,
⟨155, 12, [.v (.c (.ptr 12 0)), .v (.c (i 12))], .tup [.agg [i 5, i 0, i 0], .c (.bool true)]⟩]⟩
private theorem m1_k : h1.tbl m1 = true := by kernel_rfl
private noncomputable def h2 : HK := h1.memo m1 m1_k
private noncomputable def s1 : RE := ⟨76, [.v (.c (.ptr 12 0))], 87, .v (.c (.ptr 87 0)), l2, 251⟩
private theorem s1_k : h2.srp l0 s1 = true := by kernel_rfl
private noncomputable def h3 : HK := h2.srep _ s1 s1_k
private noncomputable def s2 : RE := ⟨49, [.v (.c (.ptr 12 0)), .v (.c (.snil))], 87, .v (.c (.ptr 293 0)), l3, 3204⟩
private theorem s2_k : h3.rep l0 s2 = true := by kernel_rfl
private noncomputable def h4 : HK := h3.repl _ s2 s2_k
private noncomputable def s3 : RE := ⟨151, [.v (.c (.ptr 12 0)), .v (.c (.ptr 293 0)), .v (.c (i 1))], 3348, .v (.c (.snil)), [], 3478⟩
private theorem s3_k : h4.srp l4 s3 = true := by kernel_rfl
private noncomputable def h5 : HK := h4.srep _ s3 s3_k
private noncomputable def s4 : RE := ⟨151, [.v (.c (.ptr 12 0)), .v (.c (.ptr 293 0)), .v (.c (i 4))], 3507, .v (.c (.snil)), [], 3628⟩
private theorem s4_k : h5.srp l4 s4 = true := by kernel_rfl
private noncomputable def h6 : HK := h5.srep _ s4 s4_k
private noncomputable def s5 : RE := ⟨151, [.v (.c (.ptr 12 0)), .v (.c (.ptr 293 0)), .v (.c (i 6))], 3644, .v (.c (.snil)), [], 3756⟩
private theorem s5_k : h6.srp l4 s5 = true := by kernel_rfl
private noncomputable def h7 : HK := h6.srep _ s5 s5_k
private noncomputable def s6 : RE := ⟨151, [.v (.c (.ptr 12 0)), .v (.c (.ptr 293 0)), .v (.c (i 8))], 3772, .v (.c (.snil)), [], 3875⟩
private theorem s6_k : h7.srp l4 s6 = true := by kernel_rfl
private noncomputable def h8 : HK := h7.srep _ s6 s6_k
private noncomputable def s7 : RE := ⟨151, [.v (.c (.ptr 12 0)), .v (.c (.ptr 293 0)), .v (.c (i 10))], 3891, .v (.c (.snil)), [], 3985⟩
private theorem s7_k : h8.srp l4 s7 = true := by kernel_rfl
private noncomputable def h9 : HK := h8.srep _ s7 s7_k
private noncomputable def s8 : RE := ⟨85, [.v (.c (.ptr 12 0)), .v (.c (.ptr 293 0)), .v (.c (i 0))], 4014, .v (.c (.snil)), [], 4282⟩
private theorem s8_k : h9.srp l4 s8 = true := by kernel_rfl
private noncomputable def h10 : HK := h9.srep _ s8 s8_k
private noncomputable def s9 : RE := ⟨86, [.v (.c (.ptr 12 0)), .v (.c (.ptr 293 0)), .v (.c (i 0))], 4284, .v (.c (.snil)), [], 4418⟩
private theorem s9_k : h10.srp l4 s9 = true := by kernel_rfl
private noncomputable def h11 : HK := h10.srep _ s9 s9_k
private noncomputable def s10 : RE := ⟨85, [.v (.c (.ptr 12 0)), .v (.c (.ptr 293 0)), .v (.c (i 1))], 4420, .v (.c (.snil)), [], 4654⟩
private theorem s10_k : h11.srp l4 s10 = true := by kernel_rfl
private noncomputable def h12 : HK := h11.srep _ s10 s10_k
private noncomputable def s11 : RE := ⟨86, [.v (.c (.ptr 12 0)), .v (.c (.ptr 293 0)), .v (.c (i 1))], 4656, .v (.c (.snil)), [], 4773⟩
private theorem s11_k : h12.srp l4 s11 = true := by kernel_rfl
private noncomputable def h13 : HK := h12.srep _ s11 s11_k
private noncomputable def s12 : RE := ⟨85, [.v (.c (.ptr 12 0)), .v (.c (.ptr 293 0)), .v (.c (i 2))], 4775, .v (.c (.snil)), [], 4991⟩
private theorem s12_k : h13.srp l4 s12 = true := by kernel_rfl
private noncomputable def h14 : HK := h13.srep _ s12 s12_k
private noncomputable def s13 : RE := ⟨86, [.v (.c (.ptr 12 0)), .v (.c (.ptr 293 0)), .v (.c (i 2))], 4993, .v (.c (.snil)), [], 5101⟩
private theorem s13_k : h14.srp l4 s13 = true := by kernel_rfl
private noncomputable def h15 : HK := h14.srep _ s13 s13_k
private noncomputable def s14 : RE := ⟨85, [.v (.c (.ptr 12 0)), .v (.c (.ptr 293 0)), .v (.c (i 3))], 5103, .v (.c (.snil)), [], 5301⟩
private theorem s14_k : h15.srp l4 s14 = true := by kernel_rfl
private noncomputable def h16 : HK := h15.srep _ s14 s14_k
private noncomputable def s15 : RE := ⟨86, [.v (.c (.ptr 12 0)), .v (.c (.ptr 293 0)), .v (.c (i 3))], 5303, .v (.c (.snil)), [], 5402⟩
private theorem s15_k : h16.srp l4 s15 = true := by kernel_rfl
private noncomputable def h17 : HK := h16.srep _ s15 s15_k
private noncomputable def s16 : RE := ⟨85, [.v (.c (.ptr 12 0)), .v (.c (.ptr 293 0)), .v (.c (i 4))], 5404, .v (.c (.snil)), [], 5584⟩
private theorem s16_k : h17.srp l4 s16 = true := by kernel_rfl
private noncomputable def h18 : HK := h17.srep _ s16 s16_k
private noncomputable def s17 : RE := ⟨86, [.v (.c (.ptr 12 0)), .v (.c (.ptr 293 0)), .v (.c (i 4))], 5586, .v (.c (.snil)), [], 5676⟩
private theorem s17_k : h18.srp l4 s17 = true := by kernel_rfl
private noncomputable def h19 : HK := h18.srep _ s17 s17_k
private noncomputable def s18 : RE := ⟨85, [.v (.c (.ptr 12 0)), .v (.c (.ptr 293 0)), .v (.c (i 5))], 5678, .v (.c (.snil)), [], 5840⟩
private theorem s18_k : h19.srp l4 s18 = true := by kernel_rfl
private noncomputable def h20 : HK := h19.srep _ s18 s18_k
private noncomputable def s19 : RE := ⟨86, [.v (.c (.ptr 12 0)), .v (.c (.ptr 293 0)), .v (.c (i 5))], 5842, .v (.c (.snil)), [], 5923⟩
private theorem s19_k : h20.srp l4 s19 = true := by kernel_rfl
private noncomputable def h21 : HK := h20.srep _ s19 s19_k
private noncomputable def s20 : RE := ⟨50, [.v (.c (.ptr 12 0)), .v (.c (.ptr 293 0))], 3204, .v (.c (.ptr 4012 0)), l5, 6289⟩
private theorem s20_k : h21.rep l4 s20 = true := by kernel_rfl
private noncomputable def h22 : HK := h21.repl _ s20 s20_k
theorem TopTaintCalls_4_t_run : isBool true (runW h22.K 4 [mi 10 4, ab true] s0) = true := by kernel_rfl
theorem TopTaintCalls_4_t_law {args : Array Value} (ha : VAs (fun _ => none) [mi 10 4, ab true] args.toList) (w : World) (hT : Tab w) :
    Calls Tryz.prog 4 args w fun e w' => Below w.heap.size w w' ∧ e = .returned (.bool true) := h22.law TopTaintCalls_4_t_run ha w hT
end Go.Proofs.YteajpblmbmncdaaGreatDoor
