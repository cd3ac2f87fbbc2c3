/- Tables of calls, and a run that uses them. -/
import Derived.Test.YteajpblmbmncdaaGreatDoorLn
namespace Go.Proofs.YteajpblmbmncdaaGreatDoor
open Go Go.RowKit Ev
set_option maxRecDepth 100000
set_option linter.unusedVariables false
private noncomputable abbrev i (n : Nat) : CV := .int .i64 (.ofNat n)
private noncomputable abbrev o (b a n : Nat) : CV := .slice b a n (.opn 0)
private noncomputable abbrev f (b a n : Nat) : CV := .slice b a n (.fix n)
private noncomputable abbrev e (k t : Nat) : Nat × BK := (k, ⟨[.snil], t, 0, none⟩)
private noncomputable abbrev l0 : Bls := [(1, ⟨[i 0, i 0, i 0, i 0, i 1, i 0], 69, 0, none⟩),
(2, ⟨[f 1 0 3], 47, 0, none⟩),
(4, ⟨[i 1, i 0], 69, 0, none⟩),
(5, ⟨[i 0, i 0], 69, 0, none⟩),
(7, ⟨[i 1, i 0], 69, 0, none⟩),
(9, ⟨[.snil, i 0, i 0, f 4 0 1, i 0, i 0, f 5 0 1, i 0, i 0, f 7 0 1, i 1, i 0], 72, 0, none⟩),
(10, ⟨[i 0], 3, 0, none⟩),
(11, ⟨[f 10 0 1], 74, 0, none⟩),
(12, ⟨[f 2 0 1, f 9 0 4, f 11 0 1, .snil, o 87 0 6, i 0], 57, 0, none⟩),
(20, ⟨[i 0, i 0, i 1, i 0], 69, 2, none⟩),
(21, ⟨[o 31 0 3, i 3, i 0, i 0, i 0], 46, 0, none⟩),
(28, ⟨[i 1], 3, 0, none⟩),
(31, ⟨[i 1, i 0, i 0, i 0, i 1, .snil, i 4, i 1, i 0, i 0, i 0, .snil, i 12, i 0, i 0, i 0, i 1, f 28 0 1], 29, 6, none⟩),
(36, ⟨[i 1, i 0, i 0, i 0], 69, 2, none⟩),
(37, ⟨[o 43 0 1, i 3, i 1, i 0, i 0], 46, 0, none⟩),
(40, ⟨[i 0], 3, 0, none⟩),
(43, ⟨[i 12, i 1, i 0, i 0, i 2, f 40 0 1], 29, 6, none⟩),
(48, ⟨[i 1, i 0, i 0, i 0], 69, 2, none⟩),
(49, ⟨[o 55 0 1, i 3, i 1, i 0, i 0], 46, 0, none⟩),
(52, ⟨[i 0], 3, 0, none⟩),
(55, ⟨[i 12, i 1, i 0, i 0, i 3, f 52 0 1], 29, 6, none⟩),
(60, ⟨[i 1, i 0, i 0, i 0], 69, 2, none⟩),
(61, ⟨[o 67 0 1, i 3, i 1, i 0, i 0], 46, 0, none⟩),
(64, ⟨[i 0], 3, 0, none⟩),
(67, ⟨[i 12, i 1, i 0, i 0, i 4, f 64 0 1], 29, 6, none⟩),
(72, ⟨[i 1, i 0, i 0, i 0], 69, 2, none⟩),
(73, ⟨[o 79 0 1, i 3, i 1, i 0, i 0], 46, 0, none⟩),
(76, ⟨[i 0], 3, 0, none⟩),
(79, ⟨[i 12, i 1, i 0, i 0, i 5, f 76 0 1], 29, 6, none⟩),
(84, ⟨[i 1, i 0, i 0, i 0], 69, 2, none⟩),
(85, ⟨[o 90 0 1, i 3, i 1, i 0, i 0], 46, 0, none⟩),
(87, ⟨[i 0, o 20 0 2, f 21 0 1, i 1, o 36 0 2, f 37 0 1, i 1, o 48 0 2, f 49 0 1, i 1, o 60 0 2, f 61 0 1, i 1, o 72 0 2, f 73 0 1, i 1, o 84 0 2, f 85 0 1], 50, 3, none⟩),
(90, ⟨[i 7, i 1, i 0, i 0, i 0, .snil], 29, 6, none⟩)]
private noncomputable abbrev l1 : Bls := [(12, ⟨[f 2 0 1, f 9 0 4, f 11 0 1, .snil, o 87 0 6, i 0], 57, 0, none⟩),
(21, ⟨[o 31 0 3, i 3, i 0, i 0, i 0], 46, 0, none⟩),
(37, ⟨[o 43 0 1, i 3, i 1, i 0, i 0], 46, 0, none⟩),
(49, ⟨[o 55 0 1, i 3, i 1, i 0, i 0], 46, 0, none⟩),
(61, ⟨[o 67 0 1, i 3, i 1, i 0, i 0], 46, 0, none⟩),
(73, ⟨[o 79 0 1, i 3, i 1, i 0, i 0], 46, 0, none⟩),
(85, ⟨[o 90 0 1, i 3, i 1, i 0, i 0], 46, 0, none⟩),
(87, ⟨[i 0, o 20 0 2, f 21 0 1, i 1, o 36 0 2, f 37 0 1, i 1, o 48 0 2, f 49 0 1, i 1, o 60 0 2, f 61 0 1, i 1, o 72 0 2, f 73 0 1, i 1, o 84 0 2, f 85 0 1], 50, 3, none⟩)]
private noncomputable abbrev l2 : Bls := [(122, ⟨[o 190 0 6, o 194 0 6, .snil, .snil, .snil, i 18], 230, 0, none⟩),
(128, ⟨[i 0, i 1], 3, 1, none⟩),
(140, ⟨[i 3, i 4], 3, 1, none⟩),
(152, ⟨[i 6, i 7], 3, 1, none⟩),
(164, ⟨[i 9, i 10], 3, 1, none⟩),
(176, ⟨[i 12, i 13], 3, 1, none⟩),
(188, ⟨[i 15, i 16], 3, 1, none⟩),
(190, ⟨[o 128 0 2, o 140 0 2, o 152 0 2, o 164 0 2, o 176 0 2, o 188 0 2], 27, 1, none⟩),
(194, ⟨[i 2, i 5, i 8, i 11, i 14, i 17], 3, 1, none⟩)]
private noncomputable abbrev l3 : Bls := [(122, ⟨[o 190 0 6, o 194 0 6, .snil, .snil, .snil, i 18], 230, 0, none⟩),
(128, ⟨[i 0, i 1], 3, 1, none⟩),
(140, ⟨[i 3, i 4], 3, 1, none⟩),
(152, ⟨[i 6, i 7], 3, 1, none⟩),
(164, ⟨[i 9, i 10], 3, 1, none⟩),
(176, ⟨[i 12, i 13], 3, 1, none⟩),
(188, ⟨[i 15, i 16], 3, 1, none⟩),
(190, ⟨[o 128 0 2, o 140 0 2, o 152 0 2, o 164 0 2, o 176 0 2, o 188 0 2], 27, 1, none⟩),
(194, ⟨[i 2, i 5, i 8, i 11, i 14, i 17], 3, 1, none⟩),
(293, ⟨[o 329 0 18], 233, 0, none⟩),
(329, ⟨[i 0, i 1, i 2, i 3, i 4, i 5, i 6, i 7, i 8, i 9, i 10, i 11, i 12, i 13, i 14, i 15, i 16, i 17], 3, 1, none⟩),
(330, ⟨[.snil, .snil, .snil, .snil, .snil, .snil, .snil, .snil, .snil, .snil, .snil, .snil, .snil, .snil, .snil, .snil, .snil, .snil], 238, 0, none⟩),
(331, ⟨[o 499 0 1], 139, 0, none⟩),
(332, ⟨[], 0, 0, some (.map [(0, .agg [i 2, i 1], .c (.bool true)), (1, .agg [i 4, i 2], .c (.bool true)), (2, .agg [i 6, i 3], .c (.bool true)), (3, .agg [i 8, i 4], .c (.bool true)), (4, .agg [i 10, i 5], .c (.bool true))] 5)⟩),
(333, ⟨[], 0, 0, some (.map [] 0)⟩),
(334, ⟨[.snil, .snil, .map 333, i 0], 237, 0, none⟩),
(335, ⟨[.ptr 12 0, .ptr 122 0, .ptr 293 0, o 491 0 18, o 494 0 18, o 497 0 18, f 330 0 18, .ptr 331 0, .map 332, .ptr 334 0], 145, 0, none⟩),
e 336 139,
e 339 139,
e 342 139,
e 345 139,
e 348 139,
(351, ⟨[o 750 0 1], 139, 0, none⟩),
e 354 139,
e 357 139,
e 360 139,
e 363 139,
e 366 139,
(369, ⟨[o 1215 0 1], 139, 0, none⟩),
e 372 139,
e 375 139,
e 378 139,
e 381 139,
e 384 139,
e 387 139,
e 390 139,
e 393 139,
(396, ⟨[o 1690 0 1], 139, 0, none⟩),
e 399 139,
e 402 139,
e 405 139,
e 408 139,
e 411 139,
e 414 139,
e 417 139,
e 420 139,
(423, ⟨[o 2175 0 1], 139, 0, none⟩),
e 426 139,
e 429 139,
e 432 139,
e 435 139,
e 438 139,
e 441 139,
e 444 139,
e 447 139,
(450, ⟨[o 2670 0 1], 139, 0, none⟩),
e 453 139,
e 456 139,
e 459 139,
e 462 139,
e 465 139,
e 468 139,
e 471 139,
e 474 139,
e 477 139,
e 480 139,
e 483 139,
e 486 139,
e 489 139,
(491, ⟨[.ptr 336 0, .ptr 345 0, .ptr 354 0, .ptr 363 0, .ptr 372 0, .ptr 381 0, .ptr 390 0, .ptr 399 0, .ptr 408 0, .ptr 417 0, .ptr 426 0, .ptr 435 0, .ptr 444 0, .ptr 453 0, .ptr 462 0, .ptr 471 0, .ptr 480 0, .ptr 489 0], 136, 1, none⟩),
e 492 139,
(494, ⟨[.ptr 339 0, .ptr 348 0, .ptr 357 0, .ptr 366 0, .ptr 375 0, .ptr 384 0, .ptr 393 0, .ptr 402 0, .ptr 411 0, .ptr 420 0, .ptr 429 0, .ptr 438 0, .ptr 447 0, .ptr 456 0, .ptr 465 0, .ptr 474 0, .ptr 483 0, .ptr 492 0], 136, 1, none⟩),
e 495 139,
(497, ⟨[.ptr 342 0, .ptr 351 0, .ptr 360 0, .ptr 369 0, .ptr 378 0, .ptr 387 0, .ptr 396 0, .ptr 405 0, .ptr 414 0, .ptr 423 0, .ptr 432 0, .ptr 441 0, .ptr 450 0, .ptr 459 0, .ptr 468 0, .ptr 477 0, .ptr 486 0, .ptr 495 0], 136, 1, none⟩),
(499, ⟨[.int .u64 (.ofNat 63)], 224, 1, none⟩),
(750, ⟨[.int .u64 (.ofNat 8)], 224, 1, none⟩),
(1215, ⟨[.int .u64 (.ofNat 64)], 224, 1, none⟩),
(1690, ⟨[.int .u64 (.ofNat 512)], 224, 1, none⟩),
(2175, ⟨[.int .u64 (.ofNat 4096)], 224, 1, none⟩),
(2670, ⟨[.int .u64 (.ofNat 32768)], 224, 1, none⟩)]
private noncomputable abbrev l4 : Bls := [(1, ⟨[i 0, i 0, i 0, i 0, i 1, i 0], 69, 0, none⟩),
(2, ⟨[f 1 0 3], 47, 0, none⟩),
(4, ⟨[i 1, i 0], 69, 0, none⟩),
(5, ⟨[i 0, i 0], 69, 0, none⟩),
(7, ⟨[i 1, i 0], 69, 0, none⟩),
(9, ⟨[.snil, i 0, i 0, f 4 0 1, i 0, i 0, f 5 0 1, i 0, i 0, f 7 0 1, i 1, i 0], 72, 0, none⟩),
(10, ⟨[i 0], 3, 0, none⟩),
(11, ⟨[f 10 0 1], 74, 0, none⟩),
(12, ⟨[f 2 0 1, f 9 0 4, f 11 0 1, .snil, o 87 0 6, i 0], 57, 0, none⟩),
(20, ⟨[i 0, i 0, i 1, i 0], 69, 2, none⟩),
(21, ⟨[o 31 0 3, i 3, i 0, i 0, i 0], 46, 0, none⟩),
(28, ⟨[i 1], 3, 0, none⟩),
(31, ⟨[i 1, i 0, i 0, i 0, i 1, .snil, i 4, i 1, i 0, i 0, i 0, .snil, i 12, i 0, i 0, i 0, i 1, f 28 0 1], 29, 6, none⟩),
(36, ⟨[i 1, i 0, i 0, i 0], 69, 2, none⟩),
(37, ⟨[o 43 0 1, i 3, i 1, i 0, i 0], 46, 0, none⟩),
(40, ⟨[i 0], 3, 0, none⟩),
(43, ⟨[i 12, i 1, i 0, i 0, i 2, f 40 0 1], 29, 6, none⟩),
(48, ⟨[i 1, i 0, i 0, i 0], 69, 2, none⟩),
(49, ⟨[o 55 0 1, i 3, i 1, i 0, i 0], 46, 0, none⟩),
(52, ⟨[i 0], 3, 0, none⟩),
(55, ⟨[i 12, i 1, i 0, i 0, i 3, f 52 0 1], 29, 6, none⟩),
(60, ⟨[i 1, i 0, i 0, i 0], 69, 2, none⟩),
(61, ⟨[o 67 0 1, i 3, i 1, i 0, i 0], 46, 0, none⟩),
(64, ⟨[i 0], 3, 0, none⟩),
(67, ⟨[i 12, i 1, i 0, i 0, i 4, f 64 0 1], 29, 6, none⟩),
(72, ⟨[i 1, i 0, i 0, i 0], 69, 2, none⟩),
(73, ⟨[o 79 0 1, i 3, i 1, i 0, i 0], 46, 0, none⟩),
(76, ⟨[i 0], 3, 0, none⟩),
(79, ⟨[i 12, i 1, i 0, i 0, i 5, f 76 0 1], 29, 6, none⟩),
(84, ⟨[i 1, i 0, i 0, i 0], 69, 2, none⟩),
(85, ⟨[o 90 0 1, i 3, i 1, i 0, i 0], 46, 0, none⟩),
(87, ⟨[i 0, o 20 0 2, f 21 0 1, i 1, o 36 0 2, f 37 0 1, i 1, o 48 0 2, f 49 0 1, i 1, o 60 0 2, f 61 0 1, i 1, o 72 0 2, f 73 0 1, i 1, o 84 0 2, f 85 0 1], 50, 3, none⟩),
(90, ⟨[i 7, i 1, i 0, i 0, i 0, .snil], 29, 6, none⟩),
(122, ⟨[o 190 0 6, o 194 0 6, .snil, .snil, .snil, i 18], 230, 0, none⟩),
(128, ⟨[i 0, i 1], 3, 1, none⟩),
(140, ⟨[i 3, i 4], 3, 1, none⟩),
(152, ⟨[i 6, i 7], 3, 1, none⟩),
(164, ⟨[i 9, i 10], 3, 1, none⟩),
(176, ⟨[i 12, i 13], 3, 1, none⟩),
(188, ⟨[i 15, i 16], 3, 1, none⟩),
(190, ⟨[o 128 0 2, o 140 0 2, o 152 0 2, o 164 0 2, o 176 0 2, o 188 0 2], 27, 1, none⟩),
(194, ⟨[i 2, i 5, i 8, i 11, i 14, i 17], 3, 1, none⟩),
(293, ⟨[o 329 0 18], 233, 0, none⟩),
(329, ⟨[i 0, i 1, i 2, i 3, i 4, i 5, i 6, i 7, i 8, i 9, i 10, i 11, i 12, i 13, i 14, i 15, i 16, i 17], 3, 1, none⟩),
(330, ⟨[.snil, .snil, .snil, .snil, .snil, .snil, .snil, .snil, .snil, .snil, .snil, .snil, .snil, .snil, .snil, .snil, .snil, .snil], 238, 0, none⟩),
(331, ⟨[o 499 0 1], 139, 0, none⟩),
(332, ⟨[], 0, 0, some (.map [(0, .agg [i 2, i 1], .c (.bool true)), (1, .agg [i 4, i 2], .c (.bool true)), (2, .agg [i 6, i 3], .c (.bool true)), (3, .agg [i 8, i 4], .c (.bool true)), (4, .agg [i 10, i 5], .c (.bool true))] 5)⟩),
(333, ⟨[], 0, 0, some (.map [] 0)⟩),
(334, ⟨[.snil, .snil, .map 333, i 0], 237, 0, none⟩),
(335, ⟨[.ptr 12 0, .ptr 122 0, .ptr 293 0, o 491 0 18, o 494 0 18, o 497 0 18, f 330 0 18, .ptr 331 0, .map 332, .ptr 334 0], 145, 0, none⟩),
e 336 139,
e 339 139,
e 342 139,
e 345 139,
e 348 139,
(351, ⟨[o 750 0 1], 139, 0, none⟩),
e 354 139,
e 357 139,
e 360 139,
e 363 139,
e 366 139,
(369, ⟨[o 1215 0 1], 139, 0, none⟩),
e 372 139,
e 375 139,
e 378 139,
e 381 139,
e 384 139,
e 387 139,
e 390 139,
e 393 139,
(396, ⟨[o 1690 0 1], 139, 0, none⟩),
e 399 139,
e 402 139,
e 405 139,
e 408 139,
e 411 139,
e 414 139,
e 417 139,
e 420 139,
(423, ⟨[o 2175 0 1], 139, 0, none⟩),
e 426 139,
e 429 139,
e 432 139,
e 435 139,
e 438 139,
e 441 139,
e 444 139,
e 447 139,
(450, ⟨[o 2670 0 1], 139, 0, none⟩),
e 453 139,
e 456 139,
e 459 139,
e 462 139,
e 465 139,
e 468 139,
e 471 139,
e 474 139,
e 477 139,
e 480 139,
e 483 139,
e 486 139,
e 489 139,
(491, ⟨[.ptr 336 0, .ptr 345 0, .ptr 354 0, .ptr 363 0, .ptr 372 0, .ptr 381 0, .ptr 390 0, .ptr 399 0, .ptr 408 0, .ptr 417 0, .ptr 426 0, .ptr 435 0, .ptr 444 0, .ptr 453 0, .ptr 462 0, .ptr 471 0, .ptr 480 0, .ptr 489 0], 136, 1, none⟩),
e 492 139,
(494, ⟨[.ptr 339 0, .ptr 348 0, .ptr 357 0, .ptr 366 0, .ptr 375 0, .ptr 384 0, .ptr 393 0, .ptr 402 0, .ptr 411 0, .ptr 420 0, .ptr 429 0, .ptr 438 0, .ptr 447 0, .ptr 456 0, .ptr 465 0, .ptr 474 0, .ptr 483 0, .ptr 492 0], 136, 1, none⟩),
e 495 139,
(497, ⟨[.ptr 342 0, .ptr 351 0, .ptr 360 0, .ptr 369 0, .ptr 378 0, .ptr 387 0, .ptr 396 0, .ptr 405 0, .ptr 414 0, .ptr 423 0, .ptr 432 0, .ptr 441 0, .ptr 450 0, .ptr 459 0, .ptr 468 0, .ptr 477 0, .ptr 486 0, .ptr 495 0], 136, 1, none⟩),
(499, ⟨[.int .u64 (.ofNat 63)], 224, 1, none⟩),
(750, ⟨[.int .u64 (.ofNat 8)], 224, 1, none⟩),
(1215, ⟨[.int .u64 (.ofNat 64)], 224, 1, none⟩),
(1690, ⟨[.int .u64 (.ofNat 512)], 224, 1, none⟩),
(2175, ⟨[.int .u64 (.ofNat 4096)], 224, 1, none⟩),
(2670, ⟨[.int .u64 (.ofNat 32768)], 224, 1, none⟩)]
private noncomputable abbrev l5 : Bls := [(4303, ⟨[], 0, 0, some (.map [(0, .agg [i 1, i 1, i 0, i 0, i 0], .c (o 6448 0 1)), (1, .agg [i 5, i 1, i 0, i 0, i 0], .c (o 6453 0 1)), (2, .agg [i 1, i 2, i 0, i 0, i 0], .c (o 6478 0 1)), (3, .agg [i 2, i 1, i 0, i 0, i 0], .c (o 6505 0 1)), (4, .agg [i 5, i 2, i 0, i 0, i 0], .c (o 6510 0 1)), (5, .agg [i 1, i 4, i 0, i 0, i 0], .c (o 6535 0 1)), (6, .agg [i 2, i 2, i 0, i 0, i 0], .c (o 6562 0 1)), (7, .agg [i 5, i 3, i 0, i 0, i 0], .c (o 6567 0 1)), (8, .agg [i 1, i 6, i 0, i 0, i 0], .c (o 6592 0 1)), (9, .agg [i 2, i 3, i 0, i 0, i 0], .c (o 6619 0 1)), (10, .agg [i 5, i 4, i 0, i 0, i 0], .c (o 6624 0 1)), (11, .agg [i 1, i 8, i 0, i 0, i 0], .c (o 6649 0 1)), (12, .agg [i 2, i 4, i 0, i 0, i 0], .c (o 6676 0 1)), (13, .agg [i 5, i 5, i 0, i 0, i 0], .c (o 6681 0 1)), (14, .agg [i 1, i 10, i 0, i 0, i 0], .c (o 6706 0 1)), (15, .agg [i 1, i 12, i 0, i 0, i 0], .c (o 6742 0 1))] 16)⟩),
(4304, ⟨[.map 4303, .md 1 (.ofNat 0) true], 155, 0, none⟩),
(6448, ⟨[i 2, i 1, i 0, i 0, i 0], 116, 5, none⟩),
(6453, ⟨[i 1, i 2, i 0, i 0, i 0], 116, 5, none⟩),
(6478, ⟨[i 5, i 0, i 0, i 0, i 0], 116, 5, none⟩),
(6505, ⟨[i 2, i 2, i 0, i 0, i 0], 116, 5, none⟩),
(6510, ⟨[i 1, i 4, i 0, i 0, i 0], 116, 5, none⟩),
(6535, ⟨[i 5, i 1, i 0, i 0, i 0], 116, 5, none⟩),
(6562, ⟨[i 2, i 3, i 0, i 0, i 0], 116, 5, none⟩),
(6567, ⟨[i 1, i 6, i 0, i 0, i 0], 116, 5, none⟩),
(6592, ⟨[i 5, i 2, i 0, i 0, i 0], 116, 5, none⟩),
(6619, ⟨[i 2, i 4, i 0, i 0, i 0], 116, 5, none⟩),
(6624, ⟨[i 1, i 8, i 0, i 0, i 0], 116, 5, none⟩),
(6649, ⟨[i 5, i 3, i 0, i 0, i 0], 116, 5, none⟩),
(6676, ⟨[i 2, i 5, i 0, i 0, i 0], 116, 5, none⟩),
(6681, ⟨[i 1, i 10, i 0, i 0, i 0], 116, 5, none⟩),
(6706, ⟨[i 5, i 4, i 0, i 0, i 0], 116, 5, none⟩),
(6742, ⟨[i 5, i 5, i 0, i 0, i 0], 116, 5, none⟩)]
private noncomputable def m0 : MM := ⟨[48], l0, 122, [⟨48, 0, [.v (.c (.ptr 12 0))], .v (.c (.nili))⟩]⟩
private theorem m0_k : H0.tbl m0 = true := by kernel_rfl
private noncomputable def h1 : HK := H0.memo m0 m0_k
private noncomputable def m1 : MM := ⟨[155], l1, 225, [⟨155, 0, [.v (.c (.ptr 12 0)), .v (.c (i 0))], .tup [.agg [i 0, i 0, i 0], .c (.bool true)]⟩,
⟨155, 1, [.v (.c (.ptr 12 0)), .v (.c (i 1))], .tup [.agg [i 0, i 0, i 1], .c (.bool true)]⟩,
⟨155, 2, [.v (.c (.ptr 12 0)), .v (.c (i 2))], .tup [.agg [i 0, i 0, i 2], .c (.bool true)]⟩,
⟨155, 3, [.v (.c (.ptr 12 0)), .v (.c (i 3))], .tup [.agg [i 0, i 0, i 3], .c (.bool true)]⟩,
⟨155, 4, [.v (.c (.ptr 12 0)), .v (.c (i 4))], .tup [.agg [i 1, i 0, i 0], .c (.bool true)]⟩,
⟨155, 5, [.v (.c (.ptr 12 0)), .v (.c (i 5))], .tup [.agg [i 1, i 0, i 1], .c (.bool true)]⟩,
⟨155, 6, [.v (.c (.ptr 12 0)), .v (.c (i 6))], .tup [.agg [i 2, i 0, i 0], .c (.bool true)]⟩,
⟨155, 7, [.v (.c (.ptr 12 0)), .v (.c (i 7))], .tup [.agg [i 2, i 0, i 1], .c (.bool true)]⟩,
⟨155, 8, [.v (.c (.ptr 12 0)), .v (.c (i 8))], .tup [.agg [i 3, i 0, i 0], .c (.bool true)]⟩,
⟨155, 9, [.v (.c (.ptr 12 0)), .v (.c (i 9))], .tup [.agg [i 3, i 0, i 1], .c (.bool true)]⟩,
⟨155, 10, [.v (.c (.ptr 12 0)), .v (.c (i 10))], .tup [.agg [i 4, i 0, i 0], .c (.bool true)]⟩,
⟨155, 11, [.v (.c (.ptr 12 0)), .v (.c (i 11))], .tup [.agg [i 4, i 0, i 1], .c (.bool true)]⟩,
⟨155, 12, [.v (.c (.ptr 12 0)), .v (.c (i 12))], .tup [.agg [i 5, i 0, i 0], .c (.bool true)]⟩,
⟨155, 13, [.v (.c (.ptr 12 0)), .v (.c (i 13))], .tup [.agg [i 5, i 0, i 1], .c (.bool true)]⟩]⟩
private theorem m1_k : h1.tbl m1 = true := by kernel_rfl
private noncomputable def h2 : HK := h1.memo m1 m1_k
private noncomputable def s1 : RE := ⟨76, [.v (.c (.ptr 12 0))], 122, .v (.c (.ptr 122 0)), l2, 293⟩
private theorem s1_k : h2.srp l0 s1 = true := by kernel_rfl
private noncomputable def h3 : HK := h2.srep _ s1 s1_k
private noncomputable def s2 : RE := ⟨49, [.v (.c (.ptr 12 0)), .v (.c (.snil))], 122, .v (.c (.ptr 335 0)), l3, 3440⟩
private theorem s2_k : h3.rep l0 s2 = true := by kernel_rfl
private noncomputable def h4 : HK := h3.repl _ s2 s2_k
private noncomputable def s3 : RE := ⟨151, [.v (.c (.ptr 12 0)), .v (.c (.ptr 335 0)), .v (.c (i 2))], 3605, .v (.c (.snil)), [], 3742⟩
private theorem s3_k : h4.srp l4 s3 = true := by kernel_rfl
private noncomputable def h5 : HK := h4.srep _ s3 s3_k
private noncomputable def s4 : RE := ⟨151, [.v (.c (.ptr 12 0)), .v (.c (.ptr 335 0)), .v (.c (i 4))], 3758, .v (.c (.snil)), [], 3886⟩
private theorem s4_k : h5.srp l4 s4 = true := by kernel_rfl
private noncomputable def h6 : HK := h5.srep _ s4 s4_k
private noncomputable def s5 : RE := ⟨151, [.v (.c (.ptr 12 0)), .v (.c (.ptr 335 0)), .v (.c (i 6))], 3902, .v (.c (.snil)), [], 4021⟩
private theorem s5_k : h6.srp l4 s5 = true := by kernel_rfl
private noncomputable def h7 : HK := h6.srep _ s5 s5_k
private noncomputable def s6 : RE := ⟨151, [.v (.c (.ptr 12 0)), .v (.c (.ptr 335 0)), .v (.c (i 8))], 4037, .v (.c (.snil)), [], 4147⟩
private theorem s6_k : h7.srp l4 s6 = true := by kernel_rfl
private noncomputable def h8 : HK := h7.srep _ s6 s6_k
private noncomputable def s7 : RE := ⟨151, [.v (.c (.ptr 12 0)), .v (.c (.ptr 335 0)), .v (.c (i 10))], 4163, .v (.c (.snil)), [], 4264⟩
private theorem s7_k : h8.srp l4 s7 = true := by kernel_rfl
private noncomputable def h9 : HK := h8.srep _ s7 s7_k
private noncomputable def s8 : RE := ⟨85, [.v (.c (.ptr 12 0)), .v (.c (.ptr 335 0)), .v (.c (i 0))], 4306, .v (.c (.snil)), [], 4593⟩
private theorem s8_k : h9.srp l4 s8 = true := by kernel_rfl
private noncomputable def h10 : HK := h9.srep _ s8 s8_k
private noncomputable def s9 : RE := ⟨86, [.v (.c (.ptr 12 0)), .v (.c (.ptr 335 0)), .v (.c (i 0))], 4595, .v (.c (.snil)), [], 4736⟩
private theorem s9_k : h10.srp l4 s9 = true := by kernel_rfl
private noncomputable def h11 : HK := h10.srep _ s9 s9_k
private noncomputable def s10 : RE := ⟨85, [.v (.c (.ptr 12 0)), .v (.c (.ptr 335 0)), .v (.c (i 1))], 4738, .v (.c (.snil)), [], 4991⟩
private theorem s10_k : h11.srp l4 s10 = true := by kernel_rfl
private noncomputable def h12 : HK := h11.srep _ s10 s10_k
private noncomputable def s11 : RE := ⟨86, [.v (.c (.ptr 12 0)), .v (.c (.ptr 335 0)), .v (.c (i 1))], 4993, .v (.c (.snil)), [], 5117⟩
private theorem s11_k : h12.srp l4 s11 = true := by kernel_rfl
private noncomputable def h13 : HK := h12.srep _ s11 s11_k
private noncomputable def s12 : RE := ⟨85, [.v (.c (.ptr 12 0)), .v (.c (.ptr 335 0)), .v (.c (i 2))], 5119, .v (.c (.snil)), [], 5354⟩
private theorem s12_k : h13.srp l4 s12 = true := by kernel_rfl
private noncomputable def h14 : HK := h13.srep _ s12 s12_k
private noncomputable def s13 : RE := ⟨86, [.v (.c (.ptr 12 0)), .v (.c (.ptr 335 0)), .v (.c (i 2))], 5356, .v (.c (.snil)), [], 5471⟩
private theorem s13_k : h14.srp l4 s13 = true := by kernel_rfl
private noncomputable def h15 : HK := h14.srep _ s13 s13_k
private noncomputable def s14 : RE := ⟨85, [.v (.c (.ptr 12 0)), .v (.c (.ptr 335 0)), .v (.c (i 3))], 5473, .v (.c (.snil)), [], 5690⟩
private theorem s14_k : h15.srp l4 s14 = true := by kernel_rfl
private noncomputable def h16 : HK := h15.srep _ s14 s14_k
private noncomputable def s15 : RE := ⟨86, [.v (.c (.ptr 12 0)), .v (.c (.ptr 335 0)), .v (.c (i 3))], 5692, .v (.c (.snil)), [], 5798⟩
private theorem s15_k : h16.srp l4 s15 = true := by kernel_rfl
private noncomputable def h17 : HK := h16.srep _ s15 s15_k
private noncomputable def s16 : RE := ⟨85, [.v (.c (.ptr 12 0)), .v (.c (.ptr 335 0)), .v (.c (i 4))], 5800, .v (.c (.snil)), [], 5999⟩
private theorem s16_k : h17.srp l4 s16 = true := by kernel_rfl
private noncomputable def h18 : HK := h17.srep _ s16 s16_k
private noncomputable def s17 : RE := ⟨86, [.v (.c (.ptr 12 0)), .v (.c (.ptr 335 0)), .v (.c (i 4))], 6001, .v (.c (.snil)), [], 6098⟩
private theorem s17_k : h18.srp l4 s17 = true := by kernel_rfl
private noncomputable def h19 : HK := h18.srep _ s17 s17_k
private noncomputable def s18 : RE := ⟨85, [.v (.c (.ptr 12 0)), .v (.c (.ptr 335 0)), .v (.c (i 5))], 6100, .v (.c (.snil)), [], 6281⟩
private theorem s18_k : h19.srp l4 s18 = true := by kernel_rfl
private noncomputable def h20 : HK := h19.srep _ s18 s18_k
private noncomputable def s19 : RE := ⟨86, [.v (.c (.ptr 12 0)), .v (.c (.ptr 335 0)), .v (.c (i 5))], 6283, .v (.c (.snil)), [], 6371⟩
private theorem s19_k : h20.srp l4 s19 = true := by kernel_rfl
private noncomputable def h21 : HK := h20.srep _ s19 s19_k
private noncomputable def s20 : RE := ⟨50, [.v (.c (.ptr 12 0)), .v (.c (.ptr 335 0))], 3440, .v (.c (.ptr 4304 0)), l5, 6744⟩
private theorem s20_k : h21.rep l4 s20 = true := by kernel_rfl
private noncomputable def h22 : HK := h21.repl _ s20 s20_k
theorem TopNilParam_4_t_run : isBool true (runW h22.K 12 [mi 8 4, ab true] s0) = true := by kernel_rfl
theorem TopNilParam_4_t_law {args : Array Value} (ha : VAs (fun _ => none) [mi 8 4, ab true] args.toList) (w : World) (hT : Tab w) :
    Calls Tryz.prog 12 args w fun e w' => Below w.heap.size w w' ∧ e = .returned (.bool true) := h22.law TopNilParam_4_t_run ha w hT
end Go.Proofs.YteajpblmbmncdaaGreatDoor
