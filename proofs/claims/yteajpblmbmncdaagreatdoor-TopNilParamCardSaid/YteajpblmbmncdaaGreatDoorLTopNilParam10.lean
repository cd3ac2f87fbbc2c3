/- Tables of calls, and a run that uses them. -/
import Derived.Test.YteajpblmbmncdaaGreatDoorLn
namespace Go.Proofs.YteajpblmbmncdaaGreatDoor
open Go Go.RowKit Ev
set_option maxRecDepth 100000
set_option linter.unusedVariables false
private noncomputable abbrev i (n : Nat) : CV := .int .i64 (.ofNat n)
private noncomputable abbrev o (b a n : Nat) : CV := .slice b a n (.opn 0)
private noncomputable abbrev f (b a n : Nat) : CV := .slice b a n (.fix n)
private noncomputable abbrev e (k t : Nat) : Nat × BK := (k, ⟨[.snil], t, 0, none⟩)
private noncomputable abbrev l0 : Bls := [(1, ⟨[i 0, i 0, i 0, i 0, i 1, i 0], 69, 0, none⟩),
(2, ⟨[f 1 0 3], 47, 0, none⟩),
(4, ⟨[i 1, i 0], 69, 0, none⟩),
(5, ⟨[i 0, i 0], 69, 0, none⟩),
(7, ⟨[i 1, i 0], 69, 0, none⟩),
(9, ⟨[.snil, i 0, i 0, f 4 0 1, i 0, i 0, f 5 0 1, i 0, i 0, f 7 0 1, i 1, i 0], 72, 0, none⟩),
(10, ⟨[i 0], 3, 0, none⟩),
(11, ⟨[f 10 0 1], 74, 0, none⟩),
(12, ⟨[f 2 0 1, f 9 0 4, f 11 0 1, .snil, o 99 0 7, i 0], 57, 0, none⟩),
(20, ⟨[i 0, i 0, i 1, i 0], 69, 2, none⟩),
(21, ⟨[o 31 0 3, i 3, i 0, i 0, i 0], 46, 0, none⟩),
(28, ⟨[i 1], 3, 0, none⟩),
(31, ⟨[i 1, i 0, i 0, i 0, i 1, .snil, i 4, i 1, i 0, i 0, i 0, .snil, i 12, i 0, i 0, i 0, i 1, f 28 0 1], 29, 6, none⟩),
(36, ⟨[i 1, i 0, i 0, i 0], 69, 2, none⟩),
(37, ⟨[o 43 0 1, i 3, i 1, i 0, i 0], 46, 0, none⟩),
(40, ⟨[i 0], 3, 0, none⟩),
(43, ⟨[i 12, i 1, i 0, i 0, i 2, f 40 0 1], 29, 6, none⟩),
(48, ⟨[i 1, i 0, i 0, i 0], 69, 2, none⟩),
(49, ⟨[o 55 0 1, i 3, i 1, i 0, i 0], 46, 0, none⟩),
(52, ⟨[i 0], 3, 0, none⟩),
(55, ⟨[i 12, i 1, i 0, i 0, i 3, f 52 0 1], 29, 6, none⟩),
(60, ⟨[i 1, i 0, i 0, i 0], 69, 2, none⟩),
(61, ⟨[o 67 0 1, i 3, i 1, i 0, i 0], 46, 0, none⟩),
(64, ⟨[i 0], 3, 0, none⟩),
(67, ⟨[i 12, i 1, i 0, i 0, i 4, f 64 0 1], 29, 6, none⟩),
(72, ⟨[i 1, i 0, i 0, i 0], 69, 2, none⟩),
(73, ⟨[o 79 0 1, i 3, i 1, i 0, i 0], 46, 0, none⟩),
(76, ⟨[i 0], 3, 0, none⟩),
(79, ⟨[i 12, i 1, i 0, i 0, i 5, f 76 0 1], 29, 6, none⟩),
(84, ⟨[i 1, i 0, i 0, i 0], 69, 2, none⟩),
(85, ⟨[o 91 0 1, i 3, i 1, i 0, i 0], 46, 0, none⟩),
(88, ⟨[i 0], 3, 0, none⟩),
(91, ⟨[i 12, i 1, i 0, i 0, i 6, f 88 0 1], 29, 6, none⟩),
(96, ⟨[i 1, i 0, i 0, i 0], 69, 2, none⟩),
(97, ⟨[o 102 0 1, i 3, i 1, i 0, i 0], 46, 0, none⟩),
(99, ⟨[i 0, o 20 0 2, f 21 0 1, i 1, o 36 0 2, f 37 0 1, i 1, o 48 0 2, f 49 0 1, i 1, o 60 0 2, f 61 0 1, i 1, o 72 0 2, f 73 0 1, i 1, o 84 0 2, f 85 0 1, i 1, o 96 0 2, f 97 0 1], 50, 3, none⟩),
(102, ⟨[i 7, i 1, i 0, i 0, i 0, .snil], 29, 6, none⟩)]
private noncomputable abbrev l1 : Bls := [(12, ⟨[f 2 0 1, f 9 0 4, f 11 0 1, .snil, o 99 0 7, i 0], 57, 0, none⟩),
(21, ⟨[o 31 0 3, i 3, i 0, i 0, i 0], 46, 0, none⟩),
(37, ⟨[o 43 0 1, i 3, i 1, i 0, i 0], 46, 0, none⟩),
(49, ⟨[o 55 0 1, i 3, i 1, i 0, i 0], 46, 0, none⟩),
(61, ⟨[o 67 0 1, i 3, i 1, i 0, i 0], 46, 0, none⟩),
(73, ⟨[o 79 0 1, i 3, i 1, i 0, i 0], 46, 0, none⟩),
(85, ⟨[o 91 0 1, i 3, i 1, i 0, i 0], 46, 0, none⟩),
(97, ⟨[o 102 0 1, i 3, i 1, i 0, i 0], 46, 0, none⟩),
(99, ⟨[i 0, o 20 0 2, f 21 0 1, i 1, o 36 0 2, f 37 0 1, i 1, o 48 0 2, f 49 0 1, i 1, o 60 0 2, f 61 0 1, i 1, o 72 0 2, f 73 0 1, i 1, o 84 0 2, f 85 0 1, i 1, o 96 0 2, f 97 0 1], 50, 3, none⟩)]
private noncomputable abbrev l2 : Bls := [(138, ⟨[o 218 0 7, o 222 0 7, .snil, .snil, .snil, i 21], 230, 0, none⟩),
(144, ⟨[i 0, i 1], 3, 1, none⟩),
(156, ⟨[i 3, i 4], 3, 1, none⟩),
(168, ⟨[i 6, i 7], 3, 1, none⟩),
(180, ⟨[i 9, i 10], 3, 1, none⟩),
(192, ⟨[i 12, i 13], 3, 1, none⟩),
(204, ⟨[i 15, i 16], 3, 1, none⟩),
(216, ⟨[i 18, i 19], 3, 1, none⟩),
(218, ⟨[o 144 0 2, o 156 0 2, o 168 0 2, o 180 0 2, o 192 0 2, o 204 0 2, o 216 0 2], 27, 1, none⟩),
(222, ⟨[i 2, i 5, i 8, i 11, i 14, i 17, i 20], 3, 1, none⟩)]
private noncomputable abbrev l3 : Bls := [(138, ⟨[o 218 0 7, o 222 0 7, .snil, .snil, .snil, i 21], 230, 0, none⟩),
(144, ⟨[i 0, i 1], 3, 1, none⟩),
(156, ⟨[i 3, i 4], 3, 1, none⟩),
(168, ⟨[i 6, i 7], 3, 1, none⟩),
(180, ⟨[i 9, i 10], 3, 1, none⟩),
(192, ⟨[i 12, i 13], 3, 1, none⟩),
(204, ⟨[i 15, i 16], 3, 1, none⟩),
(216, ⟨[i 18, i 19], 3, 1, none⟩),
(218, ⟨[o 144 0 2, o 156 0 2, o 168 0 2, o 180 0 2, o 192 0 2, o 204 0 2, o 216 0 2], 27, 1, none⟩),
(222, ⟨[i 2, i 5, i 8, i 11, i 14, i 17, i 20], 3, 1, none⟩),
(335, ⟨[o 377 0 21], 233, 0, none⟩),
(377, ⟨[i 0, i 1, i 2, i 3, i 4, i 5, i 6, i 7, i 8, i 9, i 10, i 11, i 12, i 13, i 14, i 15, i 16, i 17, i 18, i 19, i 20], 3, 1, none⟩),
(378, ⟨[.snil, .snil, .snil, .snil, .snil, .snil, .snil, .snil, .snil, .snil, .snil, .snil, .snil, .snil, .snil, .snil, .snil, .snil, .snil, .snil, .snil], 238, 0, none⟩),
(379, ⟨[o 574 0 1], 139, 0, none⟩),
(380, ⟨[], 0, 0, some (.map [(0, .agg [i 2, i 1], .c (.bool true)), (1, .agg [i 4, i 2], .c (.bool true)), (2, .agg [i 6, i 3], .c (.bool true)), (3, .agg [i 8, i 4], .c (.bool true)), (4, .agg [i 10, i 5], .c (.bool true)), (5, .agg [i 12, i 6], .c (.bool true))] 6)⟩),
(381, ⟨[], 0, 0, some (.map [] 0)⟩),
(382, ⟨[.snil, .snil, .map 381, i 0], 237, 0, none⟩),
(383, ⟨[.ptr 12 0, .ptr 138 0, .ptr 335 0, o 566 0 21, o 569 0 21, o 572 0 21, f 378 0 21, .ptr 379 0, .map 380, .ptr 382 0], 145, 0, none⟩),
e 384 139,
e 387 139,
e 390 139,
e 393 139,
e 396 139,
(399, ⟨[o 857 0 1], 139, 0, none⟩),
e 402 139,
e 405 139,
e 408 139,
e 411 139,
e 414 139,
(417, ⟨[o 1384 0 1], 139, 0, none⟩),
e 420 139,
e 423 139,
e 426 139,
e 429 139,
e 432 139,
e 435 139,
e 438 139,
e 441 139,
(444, ⟨[o 1921 0 1], 139, 0, none⟩),
e 447 139,
e 450 139,
e 453 139,
e 456 139,
e 459 139,
e 462 139,
e 465 139,
e 468 139,
(471, ⟨[o 2468 0 1], 139, 0, none⟩),
e 474 139,
e 477 139,
e 480 139,
e 483 139,
e 486 139,
e 489 139,
e 492 139,
e 495 139,
(498, ⟨[o 3025 0 1], 139, 0, none⟩),
e 501 139,
e 504 139,
e 507 139,
e 510 139,
e 513 139,
e 516 139,
e 519 139,
e 522 139,
(525, ⟨[o 3592 0 1], 139, 0, none⟩),
e 528 139,
e 531 139,
e 534 139,
e 537 139,
e 540 139,
e 543 139,
e 546 139,
e 549 139,
e 552 139,
e 555 139,
e 558 139,
e 561 139,
e 564 139,
(566, ⟨[.ptr 384 0, .ptr 393 0, .ptr 402 0, .ptr 411 0, .ptr 420 0, .ptr 429 0, .ptr 438 0, .ptr 447 0, .ptr 456 0, .ptr 465 0, .ptr 474 0, .ptr 483 0, .ptr 492 0, .ptr 501 0, .ptr 510 0, .ptr 519 0, .ptr 528 0, .ptr 537 0, .ptr 546 0, .ptr 555 0, .ptr 564 0], 136, 1, none⟩),
e 567 139,
(569, ⟨[.ptr 387 0, .ptr 396 0, .ptr 405 0, .ptr 414 0, .ptr 423 0, .ptr 432 0, .ptr 441 0, .ptr 450 0, .ptr 459 0, .ptr 468 0, .ptr 477 0, .ptr 486 0, .ptr 495 0, .ptr 504 0, .ptr 513 0, .ptr 522 0, .ptr 531 0, .ptr 540 0, .ptr 549 0, .ptr 558 0, .ptr 567 0], 136, 1, none⟩),
e 570 139,
(572, ⟨[.ptr 390 0, .ptr 399 0, .ptr 408 0, .ptr 417 0, .ptr 426 0, .ptr 435 0, .ptr 444 0, .ptr 453 0, .ptr 462 0, .ptr 471 0, .ptr 480 0, .ptr 489 0, .ptr 498 0, .ptr 507 0, .ptr 516 0, .ptr 525 0, .ptr 534 0, .ptr 543 0, .ptr 552 0, .ptr 561 0, .ptr 570 0], 136, 1, none⟩),
(574, ⟨[.int .u64 (.ofNat 127)], 224, 1, none⟩),
(857, ⟨[.int .u64 (.ofNat 8)], 224, 1, none⟩),
(1384, ⟨[.int .u64 (.ofNat 64)], 224, 1, none⟩),
(1921, ⟨[.int .u64 (.ofNat 512)], 224, 1, none⟩),
(2468, ⟨[.int .u64 (.ofNat 4096)], 224, 1, none⟩),
(3025, ⟨[.int .u64 (.ofNat 32768)], 224, 1, none⟩),
(3592, ⟨[.int .u64 (.ofNat 262144)], 224, 1, none⟩)]
private noncomputable abbrev l4 : Bls := [(1, ⟨[i 0, i 0, i 0, i 0, i 1, i 0], 69, 0, none⟩),
(2, ⟨[f 1 0 3], 47, 0, none⟩),
(4, ⟨[i 1, i 0], 69, 0, none⟩),
(5, ⟨[i 0, i 0], 69, 0, none⟩),
(7, ⟨[i 1, i 0], 69, 0, none⟩),
(9, ⟨[.snil, i 0, i 0, f 4 0 1, i 0, i 0, f 5 0 1, i 0, i 0, f 7 0 1, i 1, i 0], 72, 0, none⟩),
(10, ⟨[i 0], 3, 0, none⟩),
(11, ⟨[f 10 0 1], 74, 0, none⟩),
(12, ⟨[f 2 0 1, f 9 0 4, f 11 0 1, .snil, o 99 0 7, i 0], 57, 0, none⟩),
(20, ⟨[i 0, i 0, i 1, i 0], 69, 2, none⟩),
(21, ⟨[o 31 0 3, i 3, i 0, i 0, i 0], 46, 0, none⟩),
(28, ⟨[i 1], 3, 0, none⟩),
(31, ⟨[i 1, i 0, i 0, i 0, i 1, .snil, i 4, i 1, i 0, i 0, i 0, .snil, i 12, i 0, i 0, i 0, i 1, f 28 0 1], 29, 6, none⟩),
(36, ⟨[i 1, i 0, i 0, i 0], 69, 2, none⟩),
(37, ⟨[o 43 0 1, i 3, i 1, i 0, i 0], 46, 0, none⟩),
(40, ⟨[i 0], 3, 0, none⟩),
(43, ⟨[i 12, i 1, i 0, i 0, i 2, f 40 0 1], 29, 6, none⟩),
(48, ⟨[i 1, i 0, i 0, i 0], 69, 2, none⟩),
(49, ⟨[o 55 0 1, i 3, i 1, i 0, i 0], 46, 0, none⟩),
(52, ⟨[i 0], 3, 0, none⟩),
(55, ⟨[i 12, i 1, i 0, i 0, i 3, f 52 0 1], 29, 6, none⟩),
(60, ⟨[i 1, i 0, i 0, i 0], 69, 2, none⟩),
(61, ⟨[o 67 0 1, i 3, i 1, i 0, i 0], 46, 0, none⟩),
(64, ⟨[i 0], 3, 0, none⟩),
(67, ⟨[i 12, i 1, i 0, i 0, i 4, f 64 0 1], 29, 6, none⟩),
(72, ⟨[i 1, i 0, i 0, i 0], 69, 2, none⟩),
(73, ⟨[o 79 0 1, i 3, i 1, i 0, i 0], 46, 0, none⟩),
(76, ⟨[i 0], 3, 0, none⟩),
(79, ⟨[i 12, i 1, i 0, i 0, i 5, f 76 0 1], 29, 6, none⟩),
(84, ⟨[i 1, i 0, i 0, i 0], 69, 2, none⟩),
(85, ⟨[o 91 0 1, i 3, i 1, i 0, i 0], 46, 0, none⟩),
(88, ⟨[i 0], 3, 0, none⟩),
(91, ⟨[i 12, i 1, i 0, i 0, i 6, f 88 0 1], 29, 6, none⟩),
(96, ⟨[i 1, i 0, i 0, i 0], 69, 2, none⟩),
(97, ⟨[o 102 0 1, i 3, i 1, i 0, i 0], 46, 0, none⟩),
(99, ⟨[i 0, o 20 0 2, f 21 0 1, i 1, o 36 0 2, f 37 0 1, i 1, o 48 0 2, f 49 0 1, i 1, o 60 0 2, f 61 0 1, i 1, o 72 0 2, f 73 0 1, i 1, o 84 0 2, f 85 0 1, i 1, o 96 0 2, f 97 0 1], 50, 3, none⟩),
(102, ⟨[i 7, i 1, i 0, i 0, i 0, .snil], 29, 6, none⟩),
(138, ⟨[o 218 0 7, o 222 0 7, .snil, .snil, .snil, i 21], 230, 0, none⟩),
(144, ⟨[i 0, i 1], 3, 1, none⟩),
(156, ⟨[i 3, i 4], 3, 1, none⟩),
(168, ⟨[i 6, i 7], 3, 1, none⟩),
(180, ⟨[i 9, i 10], 3, 1, none⟩),
(192, ⟨[i 12, i 13], 3, 1, none⟩),
(204, ⟨[i 15, i 16], 3, 1, none⟩),
(216, ⟨[i 18, i 19], 3, 1, none⟩),
(218, ⟨[o 144 0 2, o 156 0 2, o 168 0 2, o 180 0 2, o 192 0 2, o 204 0 2, o 216 0 2], 27, 1, none⟩),
(222, ⟨[i 2, i 5, i 8, i 11, i 14, i 17, i 20], 3, 1, none⟩),
(335, ⟨[o 377 0 21], 233, 0, none⟩),
(377, ⟨[i 0, i 1, i 2, i 3, i 4, i 5, i 6, i 7, i 8, i 9, i 10, i 11, i 12, i 13, i 14, i 15, i 16, i 17, i 18, i 19, i 20], 3, 1, none⟩),
(378, ⟨[.snil, .snil, .snil, .snil, .snil, .snil, .snil, .snil, .snil, .snil, .snil, .snil, .snil, .snil, .snil, .snil, .snil, .snil, .snil, .snil, .snil], 238, 0, none⟩),
(379, ⟨[o 574 0 1], 139, 0, none⟩),
(380, ⟨[], 0, 0, some (.map [(0, .agg [i 2, i 1], .c (.bool true)), (1, .agg [i 4, i 2], .c (.bool true)), (2, .agg [i 6, i 3], .c (.bool true)), (3, .agg [i 8, i 4], .c (.bool true)), (4, .agg [i 10, i 5], .c (.bool true)), (5, .agg [i 12, i 6], .c (.bool true))] 6)⟩),
(381, ⟨[], 0, 0, some (.map [] 0)⟩),
(382, ⟨[.snil, .snil, .map 381, i 0], 237, 0, none⟩),
(383, ⟨[.ptr 12 0, .ptr 138 0, .ptr 335 0, o 566 0 21, o 569 0 21, o 572 0 21, f 378 0 21, .ptr 379 0, .map 380, .ptr 382 0], 145, 0, none⟩),
e 384 139,
e 387 139,
e 390 139,
e 393 139,
e 396 139,
(399, ⟨[o 857 0 1], 139, 0, none⟩),
e 402 139,
e 405 139,
e 408 139,
e 411 139,
e 414 139,
(417, ⟨[o 1384 0 1], 139, 0, none⟩),
e 420 139,
e 423 139,
e 426 139,
e 429 139,
e 432 139,
e 435 139,
e 438 139,
e 441 139,
(444, ⟨[o 1921 0 1], 139, 0, none⟩),
e 447 139,
e 450 139,
e 453 139,
e 456 139,
e 459 139,
e 462 139,
e 465 139,
e 468 139,
(471, ⟨[o 2468 0 1], 139, 0, none⟩),
e 474 139,
e 477 139,
e 480 139,
e 483 139,
e 486 139,
e 489 139,
e 492 139,
e 495 139,
(498, ⟨[o 3025 0 1], 139, 0, none⟩),
e 501 139,
e 504 139,
e 507 139,
e 510 139,
e 513 139,
e 516 139,
e 519 139,
e 522 139,
(525, ⟨[o 3592 0 1], 139, 0, none⟩),
e 528 139,
e 531 139,
e 534 139,
e 537 139,
e 540 139,
e 543 139,
e 546 139,
e 549 139,
e 552 139,
e 555 139,
e 558 139,
e 561 139,
e 564 139,
(566, ⟨[.ptr 384 0, .ptr 393 0, .ptr 402 0, .ptr 411 0, .ptr 420 0, .ptr 429 0, .ptr 438 0, .ptr 447 0, .ptr 456 0, .ptr 465 0, .ptr 474 0, .ptr 483 0, .ptr 492 0, .ptr 501 0, .ptr 510 0, .ptr 519 0, .ptr 528 0, .ptr 537 0, .ptr 546 0, .ptr 555 0, .ptr 564 0], 136, 1, none⟩),
e 567 139,
(569, ⟨[.ptr 387 0, .ptr 396 0, .ptr 405 0, .ptr 414 0, .ptr 423 0, .ptr 432 0, .ptr 441 0, .ptr 450 0, .ptr 459 0, .ptr 468 0, .ptr 477 0, .ptr 486 0, .ptr 495 0, .ptr 504 0, .ptr 513 0, .ptr 522 0, .ptr 531 0, .ptr 540 0, .ptr 549 0, .ptr 558 0, .ptr 567 0], 136, 1, none⟩),
e 570 139,
(572, ⟨[.ptr 390 0, .ptr 399 0, .ptr 408 0, .ptr 417 0, .ptr 426 0, .ptr 435 0, .ptr 444 0, .ptr 453 0, .ptr 462 0, .ptr 471 0, .ptr 480 0, .ptr 489 0, .ptr 498 0, .ptr 507 0, .ptr 516 0, .ptr 525 0, .ptr 534 0, .ptr 543 0, .ptr 552 0, .ptr 561 0, .ptr 570 0], 136, 1, none⟩),
(574, ⟨[.int .u64 (.ofNat 127)], 224, 1, none⟩),
(857, ⟨[.int .u64 (.ofNat 8)], 224, 1, none⟩),
(1384, ⟨[.int .u64 (.ofNat 64)], 224, 1, none⟩),
(1921, ⟨[.int .u64 (.ofNat 512)], 224, 1, none⟩),
(2468, ⟨[.int .u64 (.ofNat 4096)], 224, 1, none⟩),
(3025, ⟨[.int .u64 (.ofNat 32768)], 224, 1, none⟩),
(3592, ⟨[.int .u64 (.ofNat 262144)], 224, 1, none⟩)]
private noncomputable abbrev l5 : Bls := [(5624, ⟨[], 0, 0, some (.map [(0, .agg [i 1, i 1, i 0, i 0, i 0], .c (o 8419 0 1)), (1, .agg [i 5, i 1, i 0, i 0, i 0], .c (o 8424 0 1)), (2, .agg [i 1, i 2, i 0, i 0, i 0], .c (o 8449 0 1)), (3, .agg [i 2, i 1, i 0, i 0, i 0], .c (o 8477 0 1)), (4, .agg [i 5, i 2, i 0, i 0, i 0], .c (o 8482 0 1)), (5, .agg [i 1, i 4, i 0, i 0, i 0], .c (o 8507 0 1)), (6, .agg [i 2, i 2, i 0, i 0, i 0], .c (o 8535 0 1)), (7, .agg [i 5, i 3, i 0, i 0, i 0], .c (o 8540 0 1)), (8, .agg [i 1, i 6, i 0, i 0, i 0], .c (o 8565 0 1)), (9, .agg [i 2, i 3, i 0, i 0, i 0], .c (o 8593 0 1)), (10, .agg [i 5, i 4, i 0, i 0, i 0], .c (o 8598 0 1)), (11, .agg [i 1, i 8, i 0, i 0, i 0], .c (o 8623 0 1)), (12, .agg [i 2, i 4, i 0, i 0, i 0], .c (o 8651 0 1)), (13, .agg [i 5, i 5, i 0, i 0, i 0], .c (o 8656 0 1)), (14, .agg [i 1, i 10, i 0, i 0, i 0], .c (o 8681 0 1)), (15, .agg [i 2, i 5, i 0, i 0, i 0], .c (o 8709 0 1)), (16, .agg [i 5, i 6, i 0, i 0, i 0], .c (o 8714 0 1)), (17, .agg [i 1, i 12, i 0, i 0, i 0], .c (o 8739 0 1)), (18, .agg [i 1, i 14, i 0, i 0, i 0], .c (o 8775 0 1))] 19)⟩),
(5625, ⟨[.map 5624, .md 1 (.ofNat 0) true], 155, 0, none⟩),
(8419, ⟨[i 2, i 1, i 0, i 0, i 0], 116, 5, none⟩),
(8424, ⟨[i 1, i 2, i 0, i 0, i 0], 116, 5, none⟩),
(8449, ⟨[i 5, i 0, i 0, i 0, i 0], 116, 5, none⟩),
(8477, ⟨[i 2, i 2, i 0, i 0, i 0], 116, 5, none⟩),
(8482, ⟨[i 1, i 4, i 0, i 0, i 0], 116, 5, none⟩),
(8507, ⟨[i 5, i 1, i 0, i 0, i 0], 116, 5, none⟩),
(8535, ⟨[i 2, i 3, i 0, i 0, i 0], 116, 5, none⟩),
(8540, ⟨[i 1, i 6, i 0, i 0, i 0], 116, 5, none⟩),
(8565, ⟨[i 5, i 2, i 0, i 0, i 0], 116, 5, none⟩),
(8593, ⟨[i 2, i 4, i 0, i 0, i 0], 116, 5, none⟩),
(8598, ⟨[i 1, i 8, i 0, i 0, i 0], 116, 5, none⟩),
(8623, ⟨[i 5, i 3, i 0, i 0, i 0], 116, 5, none⟩),
(8651, ⟨[i 2, i 5, i 0, i 0, i 0], 116, 5, none⟩),
(8656, ⟨[i 1, i 10, i 0, i 0, i 0], 116, 5, none⟩),
(8681, ⟨[i 5, i 4, i 0, i 0, i 0], 116, 5, none⟩),
(8709, ⟨[i 2, i 6, i 0, i 0, i 0], 116, 5, none⟩),
(8714, ⟨[i 1, i 12, i 0, i 0, i 0], 116, 5, none⟩),
(8739, ⟨[i 5, i 5, i 0, i 0, i 0], 116, 5, none⟩),
(8775, ⟨[i 5, i 6, i 0, i 0, i 0], 116, 5, none⟩)]
private noncomputable def m0 : MM := ⟨[48], l0, 138, [⟨48, 0, [.v (.c (.ptr 12 0))], .v (.c (.nili))⟩]⟩
private theorem m0_k : H0.tbl m0 = true := by kernel_rfl
private noncomputable def h1 : HK := H0.memo m0 m0_k
private noncomputable def m1 : MM := ⟨[155], l1, 257, [⟨155, 0, [.v (.c (.ptr 12 0)), .v (.c (i 0))], .tup [.agg [i 0, i 0, i 0], .c (.bool true)]⟩,
⟨155, 1, [.v (.c (.ptr 12 0)), .v (.c (i 1))], .tup [.agg [i 0, i 0, i 1], .c (.bool true)]⟩,
⟨155, 2, [.v (.c (.ptr 12 0)), .v (.c (i 2))], .tup [.agg [i 0, i 0, i 2], .c (.bool true)]⟩,
⟨155, 3, [.v (.c (.ptr 12 0)), .v (.c (i 3))], .tup [.agg [i 0, i 0, i 3], .c (.bool true)]⟩,
⟨155, 4, [.v (.c (.ptr 12 0)), .v (.c (i 4))], .tup [.agg [i 1, i 0, i 0], .c (.bool true)]⟩,
⟨155, 5, [.v (.c (.ptr 12 0)), .v (.c (i 5))], .tup [.agg [i 1, i 0, i 1], .c (.bool true)]⟩,
⟨155, 6, [.v (.c (.ptr 12 0)), .v (.c (i 6))], .tup [.agg [i 2, i 0, i 0], .c (.bool true)]⟩,
⟨155, 7, [.v (.c (.ptr 12 0)), .v (.c (i 7))], .tup [.agg [i 2, i 0, i 1], .c (.bool true)]⟩,
⟨155, 8, [.v (.c (.ptr 12 0)), .v (.c (i 8))], .tup [.agg [i 3, i 0, i 0], .c (.bool true)]⟩,
⟨155, 9, [.v (.c (.ptr 12 0)), .v (.c (i 9))], .tup [.agg [i 3, i 0, i 1], .c (.bool true)]⟩,
⟨155, 10, [.v (.c (.ptr 12 0)), .v (.c (i 10))], .tup [.agg [i 4, i 0, i 0], .c (.bool true)]⟩,
⟨155, 11, [.v (.c (.ptr 12 0)), .v (.c (i 11))], .tup [.agg [i 4, i 0, i 1], .c (.bool true)]⟩,
⟨155, 12, [.v (.c (.ptr 12 0)), .v (.c (i 12))], .tup [.agg [i 5, i 0, i 0], .c (.bool true)]⟩,
⟨155, 13, [.v (.c (.ptr 12 0)), .v (.c (i 13))], .tup [.agg [i 5, i 0, i 1], .c (.bool true)]⟩,
⟨155, 14, [.v (.c (.ptr 12 0)), .v (.c (i 14))], .tup [.agg [i 6, i 0, i 0], .c (.bool true)]⟩,
⟨155, 15, [.v (.c (.ptr 12 0)), .v (.c (i 15))], .tup [.agg [i 6, i 0, i 1], .c (.bool true)]⟩]⟩
private theorem m1_k : h1.tbl m1 = true := by kernel_rfl
private noncomputable def h2 : HK := h1.memo m1 m1_k
private noncomputable def s1 : RE := ⟨76, [.v (.c (.ptr 12 0))], 138, .v (.c (.ptr 138 0)), l2, 335⟩
private theorem s1_k : h2.srp l0 s1 = true := by kernel_rfl
private noncomputable def h3 : HK := h2.srep _ s1 s1_k
private noncomputable def s2 : RE := ⟨49, [.v (.c (.ptr 12 0)), .v (.c (.snil))], 138, .v (.c (.ptr 383 0)), l3, 4513⟩
private theorem s2_k : h3.rep l0 s2 = true := by kernel_rfl
private noncomputable def h4 : HK := h3.repl _ s2 s2_k
private noncomputable def s3 : RE := ⟨151, [.v (.c (.ptr 12 0)), .v (.c (.ptr 383 0)), .v (.c (i 2))], 4698, .v (.c (.snil)), [], 4855⟩
private theorem s3_k : h4.srp l4 s3 = true := by kernel_rfl
private noncomputable def h5 : HK := h4.srep _ s3 s3_k
private noncomputable def s4 : RE := ⟨151, [.v (.c (.ptr 12 0)), .v (.c (.ptr 383 0)), .v (.c (i 4))], 4871, .v (.c (.snil)), [], 5019⟩
private theorem s4_k : h5.srp l4 s4 = true := by kernel_rfl
private noncomputable def h6 : HK := h5.srep _ s4 s4_k
private noncomputable def s5 : RE := ⟨151, [.v (.c (.ptr 12 0)), .v (.c (.ptr 383 0)), .v (.c (i 6))], 5035, .v (.c (.snil)), [], 5174⟩
private theorem s5_k : h6.srp l4 s5 = true := by kernel_rfl
private noncomputable def h7 : HK := h6.srep _ s5 s5_k
private noncomputable def s6 : RE := ⟨151, [.v (.c (.ptr 12 0)), .v (.c (.ptr 383 0)), .v (.c (i 8))], 5190, .v (.c (.snil)), [], 5320⟩
private theorem s6_k : h7.srp l4 s6 = true := by kernel_rfl
private noncomputable def h8 : HK := h7.srep _ s6 s6_k
private noncomputable def s7 : RE := ⟨151, [.v (.c (.ptr 12 0)), .v (.c (.ptr 383 0)), .v (.c (i 10))], 5336, .v (.c (.snil)), [], 5457⟩
private theorem s7_k : h8.srp l4 s7 = true := by kernel_rfl
private noncomputable def h9 : HK := h8.srep _ s7 s7_k
private noncomputable def s8 : RE := ⟨151, [.v (.c (.ptr 12 0)), .v (.c (.ptr 383 0)), .v (.c (i 12))], 5473, .v (.c (.snil)), [], 5585⟩
private theorem s8_k : h9.srp l4 s8 = true := by kernel_rfl
private noncomputable def h10 : HK := h9.srep _ s8 s8_k
private noncomputable def s9 : RE := ⟨85, [.v (.c (.ptr 12 0)), .v (.c (.ptr 383 0)), .v (.c (i 0))], 5627, .v (.c (.snil)), [], 5952⟩
private theorem s9_k : h10.srp l4 s9 = true := by kernel_rfl
private noncomputable def h11 : HK := h10.srep _ s9 s9_k
private noncomputable def s10 : RE := ⟨86, [.v (.c (.ptr 12 0)), .v (.c (.ptr 383 0)), .v (.c (i 0))], 5954, .v (.c (.snil)), [], 6114⟩
private theorem s10_k : h11.srp l4 s10 = true := by kernel_rfl
private noncomputable def h12 : HK := h11.srep _ s10 s10_k
private noncomputable def s11 : RE := ⟨85, [.v (.c (.ptr 12 0)), .v (.c (.ptr 383 0)), .v (.c (i 1))], 6116, .v (.c (.snil)), [], 6407⟩
private theorem s11_k : h12.srp l4 s11 = true := by kernel_rfl
private noncomputable def h13 : HK := h12.srep _ s11 s11_k
private noncomputable def s12 : RE := ⟨86, [.v (.c (.ptr 12 0)), .v (.c (.ptr 383 0)), .v (.c (i 1))], 6409, .v (.c (.snil)), [], 6552⟩
private theorem s12_k : h13.srp l4 s12 = true := by kernel_rfl
private noncomputable def h14 : HK := h13.srep _ s12 s12_k
private noncomputable def s13 : RE := ⟨85, [.v (.c (.ptr 12 0)), .v (.c (.ptr 383 0)), .v (.c (i 2))], 6554, .v (.c (.snil)), [], 6827⟩
private theorem s13_k : h14.srp l4 s13 = true := by kernel_rfl
private noncomputable def h15 : HK := h14.srep _ s13 s13_k
private noncomputable def s14 : RE := ⟨86, [.v (.c (.ptr 12 0)), .v (.c (.ptr 383 0)), .v (.c (i 2))], 6829, .v (.c (.snil)), [], 6963⟩
private theorem s14_k : h15.srp l4 s14 = true := by kernel_rfl
private noncomputable def h16 : HK := h15.srep _ s14 s14_k
private noncomputable def s15 : RE := ⟨85, [.v (.c (.ptr 12 0)), .v (.c (.ptr 383 0)), .v (.c (i 3))], 6965, .v (.c (.snil)), [], 7220⟩
private theorem s15_k : h16.srp l4 s15 = true := by kernel_rfl
private noncomputable def h17 : HK := h16.srep _ s15 s15_k
private noncomputable def s16 : RE := ⟨86, [.v (.c (.ptr 12 0)), .v (.c (.ptr 383 0)), .v (.c (i 3))], 7222, .v (.c (.snil)), [], 7347⟩
private theorem s16_k : h17.srp l4 s16 = true := by kernel_rfl
private noncomputable def h18 : HK := h17.srep _ s16 s16_k
private noncomputable def s17 : RE := ⟨85, [.v (.c (.ptr 12 0)), .v (.c (.ptr 383 0)), .v (.c (i 4))], 7349, .v (.c (.snil)), [], 7586⟩
private theorem s17_k : h18.srp l4 s17 = true := by kernel_rfl
private noncomputable def h19 : HK := h18.srep _ s17 s17_k
private noncomputable def s18 : RE := ⟨86, [.v (.c (.ptr 12 0)), .v (.c (.ptr 383 0)), .v (.c (i 4))], 7588, .v (.c (.snil)), [], 7704⟩
private theorem s18_k : h19.srp l4 s18 = true := by kernel_rfl
private noncomputable def h20 : HK := h19.srep _ s18 s18_k
private noncomputable def s19 : RE := ⟨85, [.v (.c (.ptr 12 0)), .v (.c (.ptr 383 0)), .v (.c (i 5))], 7706, .v (.c (.snil)), [], 7925⟩
private theorem s19_k : h20.srp l4 s19 = true := by kernel_rfl
private noncomputable def h21 : HK := h20.srep _ s19 s19_k
private noncomputable def s20 : RE := ⟨86, [.v (.c (.ptr 12 0)), .v (.c (.ptr 383 0)), .v (.c (i 5))], 7927, .v (.c (.snil)), [], 8034⟩
private theorem s20_k : h21.srp l4 s20 = true := by kernel_rfl
private noncomputable def h22 : HK := h21.srep _ s20 s20_k
private noncomputable def s21 : RE := ⟨85, [.v (.c (.ptr 12 0)), .v (.c (.ptr 383 0)), .v (.c (i 6))], 8036, .v (.c (.snil)), [], 8237⟩
private theorem s21_k : h22.srp l4 s21 = true := by kernel_rfl
private noncomputable def h23 : HK := h22.srep _ s21 s21_k
private noncomputable def s22 : RE := ⟨86, [.v (.c (.ptr 12 0)), .v (.c (.ptr 383 0)), .v (.c (i 6))], 8239, .v (.c (.snil)), [], 8337⟩
private theorem s22_k : h23.srp l4 s22 = true := by kernel_rfl
private noncomputable def h24 : HK := h23.srep _ s22 s22_k
private noncomputable def s23 : RE := ⟨50, [.v (.c (.ptr 12 0)), .v (.c (.ptr 383 0))], 4513, .v (.c (.ptr 5625 0)), l5, 8777⟩
private theorem s23_k : h24.rep l4 s23 = true := by kernel_rfl
private noncomputable def h25 : HK := h24.repl _ s23 s23_k
theorem TopNilParam_5_t_run : isBool true (runW h25.K 12 [mi 8 5, ab true] s0) = true := by kernel_rfl
theorem TopNilParam_5_t_law {args : Array Value} (ha : VAs (fun _ => none) [mi 8 5, ab true] args.toList) (w : World) (hT : Tab w) :
    Calls Tryz.prog 12 args w fun e w' => Below w.heap.size w w' ∧ e = .returned (.bool true) := h25.law TopNilParam_5_t_run ha w hT
end Go.Proofs.YteajpblmbmncdaaGreatDoor
