/- Tables of calls, and a run that uses them. -/
import Derived.Test.YteajpblmbmncdaaGreatDoorLn
namespace Go.Proofs.YteajpblmbmncdaaGreatDoor
open Go Go.RowKit Ev
set_option maxRecDepth 100000
set_option linter.unusedVariables false
private noncomputable abbrev i (n : Nat) : CV := .int .i64 (.ofNat n)
private noncomputable abbrev o (b a n : Nat) : CV := .slice b a n (.opn 0)
private noncomputable abbrev f (b a n : Nat) : CV := .slice b a n (.fix n)
private noncomputable abbrev e (k t : Nat) : Nat × BK := (k, ⟨[.snil], t, 0, none⟩)
private noncomputable abbrev l0 : Bls := [(1, ⟨[i 0, i 0, i 0, i 0, i 1, i 0], 69, 0, none⟩),
(2, ⟨[f 1 0 3], 47, 0, none⟩),
(4, ⟨[i 1, i 0], 69, 0, none⟩),
(5, ⟨[i 0, i 0], 69, 0, none⟩),
(7, ⟨[i 1, i 0], 69, 0, none⟩),
(9, ⟨[.snil, i 0, i 0, f 4 0 1, i 0, i 0, f 5 0 1, i 0, i 0, f 7 0 1, i 1, i 0], 72, 0, none⟩),
(10, ⟨[i 0], 3, 0, none⟩),
(11, ⟨[f 10 0 1], 74, 0, none⟩),
(12, ⟨[f 2 0 1, f 9 0 4, f 11 0 1, .snil, o 122 0 9, i 0], 57, 0, none⟩),
(20, ⟨[i 0, i 0, i 1, i 0], 69, 2, none⟩),
(21, ⟨[o 30 0 3, i 3, i 0, i 0, i 0], 46, 0, none⟩),
(27, ⟨[i 1], 3, 0, none⟩),
(30, ⟨[i 1, i 0, i 0, i 0, i 1, .snil, i 5, i 1, i 0, i 0, i 0, .snil, i 12, i 0, i 0, i 0, i 1, f 27 0 1], 29, 6, none⟩),
(35, ⟨[i 1, i 0, i 0, i 0], 69, 2, none⟩),
(36, ⟨[o 42 0 1, i 3, i 1, i 0, i 0], 46, 0, none⟩),
(39, ⟨[i 0], 3, 0, none⟩),
(42, ⟨[i 12, i 1, i 0, i 0, i 2, f 39 0 1], 29, 6, none⟩),
(47, ⟨[i 1, i 0, i 0, i 0], 69, 2, none⟩),
(48, ⟨[o 54 0 1, i 3, i 1, i 0, i 0], 46, 0, none⟩),
(51, ⟨[i 0], 3, 0, none⟩),
(54, ⟨[i 12, i 1, i 0, i 0, i 3, f 51 0 1], 29, 6, none⟩),
(59, ⟨[i 1, i 0, i 0, i 0], 69, 2, none⟩),
(60, ⟨[o 66 0 1, i 3, i 1, i 0, i 0], 46, 0, none⟩),
(63, ⟨[i 0], 3, 0, none⟩),
(66, ⟨[i 12, i 1, i 0, i 0, i 4, f 63 0 1], 29, 6, none⟩),
(71, ⟨[i 1, i 0, i 0, i 0], 69, 2, none⟩),
(72, ⟨[o 78 0 1, i 3, i 1, i 0, i 0], 46, 0, none⟩),
(75, ⟨[i 0], 3, 0, none⟩),
(78, ⟨[i 12, i 1, i 0, i 0, i 5, f 75 0 1], 29, 6, none⟩),
(83, ⟨[i 1, i 0, i 0, i 0], 69, 2, none⟩),
(84, ⟨[o 90 0 1, i 3, i 1, i 0, i 0], 46, 0, none⟩),
(87, ⟨[i 0], 3, 0, none⟩),
(90, ⟨[i 12, i 1, i 0, i 0, i 6, f 87 0 1], 29, 6, none⟩),
(95, ⟨[i 1, i 0, i 0, i 0], 69, 2, none⟩),
(96, ⟨[o 102 0 1, i 3, i 1, i 0, i 0], 46, 0, none⟩),
(99, ⟨[i 0], 3, 0, none⟩),
(102, ⟨[i 12, i 1, i 0, i 0, i 7, f 99 0 1], 29, 6, none⟩),
(107, ⟨[i 1, i 0, i 0, i 0], 69, 2, none⟩),
(108, ⟨[o 114 0 1, i 3, i 1, i 0, i 0], 46, 0, none⟩),
(111, ⟨[i 0], 3, 0, none⟩),
(114, ⟨[i 12, i 1, i 0, i 0, i 8, f 111 0 1], 29, 6, none⟩),
(119, ⟨[i 1, i 0, i 0, i 0], 69, 2, none⟩),
(120, ⟨[o 125 0 1, i 3, i 1, i 0, i 0], 46, 0, none⟩),
(122, ⟨[i 0, o 20 0 2, f 21 0 1, i 1, o 35 0 2, f 36 0 1, i 1, o 47 0 2, f 48 0 1, i 1, o 59 0 2, f 60 0 1, i 1, o 71 0 2, f 72 0 1, i 1, o 83 0 2, f 84 0 1, i 1, o 95 0 2, f 96 0 1, i 1, o 107 0 2, f 108 0 1, i 1, o 119 0 2, f 120 0 1], 50, 3, none⟩),
(125, ⟨[i 7, i 1, i 0, i 0, i 0, .snil], 29, 6, none⟩)]
private noncomputable abbrev l1 : Bls := [(12, ⟨[f 2 0 1, f 9 0 4, f 11 0 1, .snil, o 122 0 9, i 0], 57, 0, none⟩),
(21, ⟨[o 30 0 3, i 3, i 0, i 0, i 0], 46, 0, none⟩),
(36, ⟨[o 42 0 1, i 3, i 1, i 0, i 0], 46, 0, none⟩),
(48, ⟨[o 54 0 1, i 3, i 1, i 0, i 0], 46, 0, none⟩),
(60, ⟨[o 66 0 1, i 3, i 1, i 0, i 0], 46, 0, none⟩),
(72, ⟨[o 78 0 1, i 3, i 1, i 0, i 0], 46, 0, none⟩),
(84, ⟨[o 90 0 1, i 3, i 1, i 0, i 0], 46, 0, none⟩),
(96, ⟨[o 102 0 1, i 3, i 1, i 0, i 0], 46, 0, none⟩),
(108, ⟨[o 114 0 1, i 3, i 1, i 0, i 0], 46, 0, none⟩),
(120, ⟨[o 125 0 1, i 3, i 1, i 0, i 0], 46, 0, none⟩),
(122, ⟨[i 0, o 20 0 2, f 21 0 1, i 1, o 35 0 2, f 36 0 1, i 1, o 47 0 2, f 48 0 1, i 1, o 59 0 2, f 60 0 1, i 1, o 71 0 2, f 72 0 1, i 1, o 83 0 2, f 84 0 1, i 1, o 95 0 2, f 96 0 1, i 1, o 107 0 2, f 108 0 1, i 1, o 119 0 2, f 120 0 1], 50, 3, none⟩)]
private noncomputable abbrev l2 : Bls := [(126, ⟨[o 230 0 9, o 234 0 9, o 297 0 1, o 286 0 1, o 288 0 1, i 30], 230, 0, none⟩),
(132, ⟨[i 0, i 1], 3, 1, none⟩),
(144, ⟨[i 3, i 4], 3, 1, none⟩),
(156, ⟨[i 6, i 7], 3, 1, none⟩),
(168, ⟨[i 9, i 10], 3, 1, none⟩),
(180, ⟨[i 12, i 13], 3, 1, none⟩),
(192, ⟨[i 15, i 16], 3, 1, none⟩),
(204, ⟨[i 18, i 19], 3, 1, none⟩),
(216, ⟨[i 21, i 22], 3, 1, none⟩),
(228, ⟨[i 24, i 25], 3, 1, none⟩),
(230, ⟨[o 132 0 2, o 144 0 2, o 156 0 2, o 168 0 2, o 180 0 2, o 192 0 2, o 204 0 2, o 216 0 2, o 228 0 2], 27, 1, none⟩),
(234, ⟨[i 2, i 5, i 8, i 11, i 14, i 17, i 20, i 23, i 26], 3, 1, none⟩),
(286, ⟨[i 1], 3, 1, none⟩),
(288, ⟨[i 0], 3, 1, none⟩),
(295, ⟨[i 27, i 28, i 29], 3, 1, none⟩),
(297, ⟨[o 295 0 3], 27, 1, none⟩)]
private noncomputable abbrev l3 : Bls := [(126, ⟨[o 230 0 9, o 234 0 9, o 297 0 1, o 286 0 1, o 288 0 1, i 30], 230, 0, none⟩),
(132, ⟨[i 0, i 1], 3, 1, none⟩),
(144, ⟨[i 3, i 4], 3, 1, none⟩),
(156, ⟨[i 6, i 7], 3, 1, none⟩),
(168, ⟨[i 9, i 10], 3, 1, none⟩),
(180, ⟨[i 12, i 13], 3, 1, none⟩),
(192, ⟨[i 15, i 16], 3, 1, none⟩),
(204, ⟨[i 18, i 19], 3, 1, none⟩),
(216, ⟨[i 21, i 22], 3, 1, none⟩),
(228, ⟨[i 24, i 25], 3, 1, none⟩),
(230, ⟨[o 132 0 2, o 144 0 2, o 156 0 2, o 168 0 2, o 180 0 2, o 192 0 2, o 204 0 2, o 216 0 2, o 228 0 2], 27, 1, none⟩),
(234, ⟨[i 2, i 5, i 8, i 11, i 14, i 17, i 20, i 23, i 26], 3, 1, none⟩),
(286, ⟨[i 1], 3, 1, none⟩),
(288, ⟨[i 0], 3, 1, none⟩),
(295, ⟨[i 27, i 28, i 29], 3, 1, none⟩),
(297, ⟨[o 295 0 3], 27, 1, none⟩),
(388, ⟨[o 448 0 30], 233, 0, none⟩),
(448, ⟨[i 0, i 1, i 2, i 3, i 4, i 5, i 6, i 7, i 8, i 9, i 10, i 11, i 12, i 13, i 14, i 15, i 16, i 17, i 18, i 19, i 20, i 21, i 22, i 23, i 24, i 25, i 26, i 27, i 28, i 29], 3, 1, none⟩),
(449, ⟨[.snil, .snil, .snil, .snil, .snil, .snil, .snil, .snil, .snil, .snil, .snil, .snil, .snil, .snil, .snil, .snil, .snil, .snil, .snil, .snil, .snil, .snil, .snil, .snil, .snil, .snil, .snil, .snil, .snil, .snil], 238, 0, none⟩),
(450, ⟨[o 726 0 1], 139, 0, none⟩),
(451, ⟨[], 0, 0, some (.map [(0, .agg [i 2, i 1], .c (.bool true)), (1, .agg [i 4, i 2], .c (.bool true)), (2, .agg [i 6, i 3], .c (.bool true)), (3, .agg [i 8, i 4], .c (.bool true)), (4, .agg [i 10, i 5], .c (.bool true)), (5, .agg [i 12, i 6], .c (.bool true)), (6, .agg [i 14, i 7], .c (.bool true)), (7, .agg [i 16, i 8], .c (.bool true))] 8)⟩),
(452, ⟨[], 0, 0, some (.map [] 9)⟩),
(453, ⟨[.snil, o 6081 0 0, .map 452, i 9], 237, 0, none⟩),
(454, ⟨[.ptr 12 0, .ptr 126 0, .ptr 388 0, o 718 0 30, o 721 0 30, o 724 0 30, f 449 0 30, .ptr 450 0, .map 451, .ptr 453 0], 145, 0, none⟩),
e 455 139,
e 458 139,
e 461 139,
(464, ⟨[o 1094 0 1], 139, 0, none⟩),
(470, ⟨[o 1100 0 1], 139, 0, none⟩),
e 473 139,
e 476 139,
e 479 139,
(482, ⟨[o 1102 0 1], 139, 0, none⟩),
(488, ⟨[o 1781 0 1], 139, 0, none⟩),
e 491 139,
e 494 139,
e 497 139,
e 500 139,
e 503 139,
e 506 139,
(509, ⟨[o 1783 0 1], 139, 0, none⟩),
(515, ⟨[o 2472 0 1], 139, 0, none⟩),
e 518 139,
e 521 139,
e 524 139,
e 527 139,
e 530 139,
e 533 139,
(536, ⟨[o 2474 0 1], 139, 0, none⟩),
(542, ⟨[o 3173 0 1], 139, 0, none⟩),
e 545 139,
e 548 139,
e 551 139,
e 554 139,
e 557 139,
e 560 139,
(563, ⟨[o 3175 0 1], 139, 0, none⟩),
(569, ⟨[o 3884 0 1], 139, 0, none⟩),
e 572 139,
e 575 139,
e 578 139,
e 581 139,
e 584 139,
e 587 139,
(590, ⟨[o 3886 0 1], 139, 0, none⟩),
(596, ⟨[o 4605 0 1], 139, 0, none⟩),
e 599 139,
e 602 139,
e 605 139,
e 608 139,
e 611 139,
e 614 139,
(617, ⟨[o 4607 0 1], 139, 0, none⟩),
(623, ⟨[o 5336 0 1], 139, 0, none⟩),
e 626 139,
e 629 139,
e 632 139,
e 635 139,
e 638 139,
e 641 139,
(644, ⟨[o 5338 0 1], 139, 0, none⟩),
(650, ⟨[o 6077 0 1], 139, 0, none⟩),
e 653 139,
e 656 139,
e 659 139,
e 662 139,
e 665 139,
e 668 139,
(671, ⟨[o 6079 0 1], 139, 0, none⟩),
e 677 139,
e 680 139,
e 683 139,
e 686 139,
e 689 139,
e 692 139,
e 695 139,
e 698 139,
e 701 139,
e 704 139,
e 707 139,
e 710 139,
e 713 139,
e 716 139,
(718, ⟨[.ptr 455 0, .ptr 464 0, .ptr 473 0, .ptr 482 0, .ptr 491 0, .ptr 500 0, .ptr 509 0, .ptr 518 0, .ptr 527 0, .ptr 536 0, .ptr 545 0, .ptr 554 0, .ptr 563 0, .ptr 572 0, .ptr 581 0, .ptr 590 0, .ptr 599 0, .ptr 608 0, .ptr 617 0, .ptr 626 0, .ptr 635 0, .ptr 644 0, .ptr 653 0, .ptr 662 0, .ptr 671 0, .ptr 680 0, .ptr 689 0, .ptr 698 0, .ptr 707 0, .ptr 716 0], 136, 1, none⟩),
e 719 139,
(721, ⟨[.ptr 458 0, .ptr 7365 0, .ptr 476 0, .ptr 7373 0, .ptr 494 0, .ptr 503 0, .ptr 7381 0, .ptr 521 0, .ptr 530 0, .ptr 7389 0, .ptr 548 0, .ptr 557 0, .ptr 7397 0, .ptr 575 0, .ptr 584 0, .ptr 7405 0, .ptr 602 0, .ptr 611 0, .ptr 7413 0, .ptr 629 0, .ptr 638 0, .ptr 7421 0, .ptr 656 0, .ptr 665 0, .ptr 7429 0, .ptr 683 0, .ptr 692 0, .ptr 701 0, .ptr 710 0, .ptr 719 0], 136, 1, none⟩),
e 722 139,
(724, ⟨[.ptr 461 0, .ptr 470 0, .ptr 479 0, .ptr 488 0, .ptr 497 0, .ptr 506 0, .ptr 515 0, .ptr 524 0, .ptr 533 0, .ptr 542 0, .ptr 551 0, .ptr 560 0, .ptr 569 0, .ptr 578 0, .ptr 587 0, .ptr 596 0, .ptr 605 0, .ptr 614 0, .ptr 623 0, .ptr 632 0, .ptr 641 0, .ptr 650 0, .ptr 659 0, .ptr 668 0, .ptr 677 0, .ptr 686 0, .ptr 695 0, .ptr 704 0, .ptr 713 0, .ptr 722 0], 136, 1, none⟩),
(726, ⟨[.int .u64 (.ofNat 511)], 224, 1, none⟩),
(1094, ⟨[.int .u64 (.ofNat 1)], 224, 1, none⟩),
(1100, ⟨[.int .u64 (.ofNat 8)], 224, 1, none⟩),
(1102, ⟨[.int .u64 (.ofNat 1)], 224, 1, none⟩),
(1781, ⟨[.int .u64 (.ofNat 64)], 224, 1, none⟩),
(1783, ⟨[.int .u64 (.ofNat 1)], 224, 1, none⟩),
(2472, ⟨[.int .u64 (.ofNat 512)], 224, 1, none⟩),
(2474, ⟨[.int .u64 (.ofNat 1)], 224, 1, none⟩),
(3173, ⟨[.int .u64 (.ofNat 4096)], 224, 1, none⟩),
(3175, ⟨[.int .u64 (.ofNat 1)], 224, 1, none⟩),
(3884, ⟨[.int .u64 (.ofNat 32768)], 224, 1, none⟩),
(3886, ⟨[.int .u64 (.ofNat 1)], 224, 1, none⟩),
(4605, ⟨[.int .u64 (.ofNat 262144)], 224, 1, none⟩),
(4607, ⟨[.int .u64 (.ofNat 1)], 224, 1, none⟩),
(5336, ⟨[.int .u64 (.ofNat 2097152)], 224, 1, none⟩),
(5338, ⟨[.int .u64 (.ofNat 1)], 224, 1, none⟩),
(6077, ⟨[.int .u64 (.ofNat 16777216)], 224, 1, none⟩),
(6079, ⟨[.int .u64 (.ofNat 1)], 224, 1, none⟩),
(6081, ⟨[i 0, i 0, i 0, i 0, i 0, i 0, i 0, i 0, i 0], 3, 1, none⟩),
(7364, ⟨[.int .u64 (.ofNat 1)], 224, 1, none⟩),
(7365, ⟨[o 7364 0 1], 139, 0, none⟩),
(7372, ⟨[.int .u64 (.ofNat 1)], 224, 1, none⟩),
(7373, ⟨[o 7372 0 1], 139, 0, none⟩),
(7380, ⟨[.int .u64 (.ofNat 1)], 224, 1, none⟩),
(7381, ⟨[o 7380 0 1], 139, 0, none⟩),
(7388, ⟨[.int .u64 (.ofNat 1)], 224, 1, none⟩),
(7389, ⟨[o 7388 0 1], 139, 0, none⟩),
(7396, ⟨[.int .u64 (.ofNat 1)], 224, 1, none⟩),
(7397, ⟨[o 7396 0 1], 139, 0, none⟩),
(7404, ⟨[.int .u64 (.ofNat 1)], 224, 1, none⟩),
(7405, ⟨[o 7404 0 1], 139, 0, none⟩),
(7412, ⟨[.int .u64 (.ofNat 1)], 224, 1, none⟩),
(7413, ⟨[o 7412 0 1], 139, 0, none⟩),
(7420, ⟨[.int .u64 (.ofNat 1)], 224, 1, none⟩),
(7421, ⟨[o 7420 0 1], 139, 0, none⟩),
(7428, ⟨[.int .u64 (.ofNat 1)], 224, 1, none⟩),
(7429, ⟨[o 7428 0 1], 139, 0, none⟩)]
private noncomputable abbrev l4 : Bls := [(1, ⟨[i 0, i 0, i 0, i 0, i 1, i 0], 69, 0, none⟩),
(2, ⟨[f 1 0 3], 47, 0, none⟩),
(4, ⟨[i 1, i 0], 69, 0, none⟩),
(5, ⟨[i 0, i 0], 69, 0, none⟩),
(7, ⟨[i 1, i 0], 69, 0, none⟩),
(9, ⟨[.snil, i 0, i 0, f 4 0 1, i 0, i 0, f 5 0 1, i 0, i 0, f 7 0 1, i 1, i 0], 72, 0, none⟩),
(10, ⟨[i 0], 3, 0, none⟩),
(11, ⟨[f 10 0 1], 74, 0, none⟩),
(12, ⟨[f 2 0 1, f 9 0 4, f 11 0 1, .snil, o 122 0 9, i 0], 57, 0, none⟩),
(20, ⟨[i 0, i 0, i 1, i 0], 69, 2, none⟩),
(21, ⟨[o 30 0 3, i 3, i 0, i 0, i 0], 46, 0, none⟩),
(27, ⟨[i 1], 3, 0, none⟩),
(30, ⟨[i 1, i 0, i 0, i 0, i 1, .snil, i 5, i 1, i 0, i 0, i 0, .snil, i 12, i 0, i 0, i 0, i 1, f 27 0 1], 29, 6, none⟩),
(35, ⟨[i 1, i 0, i 0, i 0], 69, 2, none⟩),
(36, ⟨[o 42 0 1, i 3, i 1, i 0, i 0], 46, 0, none⟩),
(39, ⟨[i 0], 3, 0, none⟩),
(42, ⟨[i 12, i 1, i 0, i 0, i 2, f 39 0 1], 29, 6, none⟩),
(47, ⟨[i 1, i 0, i 0, i 0], 69, 2, none⟩),
(48, ⟨[o 54 0 1, i 3, i 1, i 0, i 0], 46, 0, none⟩),
(51, ⟨[i 0], 3, 0, none⟩),
(54, ⟨[i 12, i 1, i 0, i 0, i 3, f 51 0 1], 29, 6, none⟩),
(59, ⟨[i 1, i 0, i 0, i 0], 69, 2, none⟩),
(60, ⟨[o 66 0 1, i 3, i 1, i 0, i 0], 46, 0, none⟩),
(63, ⟨[i 0], 3, 0, none⟩),
(66, ⟨[i 12, i 1, i 0, i 0, i 4, f 63 0 1], 29, 6, none⟩),
(71, ⟨[i 1, i 0, i 0, i 0], 69, 2, none⟩),
(72, ⟨[o 78 0 1, i 3, i 1, i 0, i 0], 46, 0, none⟩),
(75, ⟨[i 0], 3, 0, none⟩),
(78, ⟨[i 12, i 1, i 0, i 0, i 5, f 75 0 1], 29, 6, none⟩),
(83, ⟨[i 1, i 0, i 0, i 0], 69, 2, none⟩),
(84, ⟨[o 90 0 1, i 3, i 1, i 0, i 0], 46, 0, none⟩),
(87, ⟨[i 0], 3, 0, none⟩),
(90, ⟨[i 12, i 1, i 0, i 0, i 6, f 87 0 1], 29, 6, none⟩),
(95, ⟨[i 1, i 0, i 0, i 0], 69, 2, none⟩),
(96, ⟨[o 102 0 1, i 3, i 1, i 0, i 0], 46, 0, none⟩),
(99, ⟨[i 0], 3, 0, none⟩),
(102, ⟨[i 12, i 1, i 0, i 0, i 7, f 99 0 1], 29, 6, none⟩),
(107, ⟨[i 1, i 0, i 0, i 0], 69, 2, none⟩),
(108, ⟨[o 114 0 1, i 3, i 1, i 0, i 0], 46, 0, none⟩),
(111, ⟨[i 0], 3, 0, none⟩),
(114, ⟨[i 12, i 1, i 0, i 0, i 8, f 111 0 1], 29, 6, none⟩),
(119, ⟨[i 1, i 0, i 0, i 0], 69, 2, none⟩),
(120, ⟨[o 125 0 1, i 3, i 1, i 0, i 0], 46, 0, none⟩),
(122, ⟨[i 0, o 20 0 2, f 21 0 1, i 1, o 35 0 2, f 36 0 1, i 1, o 47 0 2, f 48 0 1, i 1, o 59 0 2, f 60 0 1, i 1, o 71 0 2, f 72 0 1, i 1, o 83 0 2, f 84 0 1, i 1, o 95 0 2, f 96 0 1, i 1, o 107 0 2, f 108 0 1, i 1, o 119 0 2, f 120 0 1], 50, 3, none⟩),
(125, ⟨[i 7, i 1, i 0, i 0, i 0, .snil], 29, 6, none⟩),
(126, ⟨[o 230 0 9, o 234 0 9, o 297 0 1, o 286 0 1, o 288 0 1, i 30], 230, 0, none⟩),
(132, ⟨[i 0, i 1], 3, 1, none⟩),
(144, ⟨[i 3, i 4], 3, 1, none⟩),
(156, ⟨[i 6, i 7], 3, 1, none⟩),
(168, ⟨[i 9, i 10], 3, 1, none⟩),
(180, ⟨[i 12, i 13], 3, 1, none⟩),
(192, ⟨[i 15, i 16], 3, 1, none⟩),
(204, ⟨[i 18, i 19], 3, 1, none⟩),
(216, ⟨[i 21, i 22], 3, 1, none⟩),
(228, ⟨[i 24, i 25], 3, 1, none⟩),
(230, ⟨[o 132 0 2, o 144 0 2, o 156 0 2, o 168 0 2, o 180 0 2, o 192 0 2, o 204 0 2, o 216 0 2, o 228 0 2], 27, 1, none⟩),
(234, ⟨[i 2, i 5, i 8, i 11, i 14, i 17, i 20, i 23, i 26], 3, 1, none⟩),
(286, ⟨[i 1], 3, 1, none⟩),
(288, ⟨[i 0], 3, 1, none⟩),
(295, ⟨[i 27, i 28, i 29], 3, 1, none⟩),
(297, ⟨[o 295 0 3], 27, 1, none⟩),
(388, ⟨[o 448 0 30], 233, 0, none⟩),
(448, ⟨[i 0, i 1, i 2, i 3, i 4, i 5, i 6, i 7, i 8, i 9, i 10, i 11, i 12, i 13, i 14, i 15, i 16, i 17, i 18, i 19, i 20, i 21, i 22, i 23, i 24, i 25, i 26, i 27, i 28, i 29], 3, 1, none⟩),
(449, ⟨[.snil, .snil, .snil, .snil, .snil, .snil, .snil, .snil, .snil, .snil, .snil, .snil, .snil, .snil, .snil, .snil, .snil, .snil, .snil, .snil, .snil, .snil, .snil, .snil, .snil, .snil, .snil, .snil, .snil, .snil], 238, 0, none⟩),
(450, ⟨[o 726 0 1], 139, 0, none⟩),
(451, ⟨[], 0, 0, some (.map [(0, .agg [i 2, i 1], .c (.bool true)), (1, .agg [i 4, i 2], .c (.bool true)), (2, .agg [i 6, i 3], .c (.bool true)), (3, .agg [i 8, i 4], .c (.bool true)), (4, .agg [i 10, i 5], .c (.bool true)), (5, .agg [i 12, i 6], .c (.bool true)), (6, .agg [i 14, i 7], .c (.bool true)), (7, .agg [i 16, i 8], .c (.bool true))] 8)⟩),
(452, ⟨[], 0, 0, some (.map [] 9)⟩),
(453, ⟨[.snil, o 6081 0 0, .map 452, i 9], 237, 0, none⟩),
(454, ⟨[.ptr 12 0, .ptr 126 0, .ptr 388 0, o 718 0 30, o 721 0 30, o 724 0 30, f 449 0 30, .ptr 450 0, .map 451, .ptr 453 0], 145, 0, none⟩),
e 455 139,
e 458 139,
e 461 139,
(464, ⟨[o 1094 0 1], 139, 0, none⟩),
(470, ⟨[o 1100 0 1], 139, 0, none⟩),
e 473 139,
e 476 139,
e 479 139,
(482, ⟨[o 1102 0 1], 139, 0, none⟩),
(488, ⟨[o 1781 0 1], 139, 0, none⟩),
e 491 139,
e 494 139,
e 497 139,
e 500 139,
e 503 139,
e 506 139,
(509, ⟨[o 1783 0 1], 139, 0, none⟩),
(515, ⟨[o 2472 0 1], 139, 0, none⟩),
e 518 139,
e 521 139,
e 524 139,
e 527 139,
e 530 139,
e 533 139,
(536, ⟨[o 2474 0 1], 139, 0, none⟩),
(542, ⟨[o 3173 0 1], 139, 0, none⟩),
e 545 139,
e 548 139,
e 551 139,
e 554 139,
e 557 139,
e 560 139,
(563, ⟨[o 3175 0 1], 139, 0, none⟩),
(569, ⟨[o 3884 0 1], 139, 0, none⟩),
e 572 139,
e 575 139,
e 578 139,
e 581 139,
e 584 139,
e 587 139,
(590, ⟨[o 3886 0 1], 139, 0, none⟩),
(596, ⟨[o 4605 0 1], 139, 0, none⟩),
e 599 139,
e 602 139,
e 605 139,
e 608 139,
e 611 139,
e 614 139,
(617, ⟨[o 4607 0 1], 139, 0, none⟩),
(623, ⟨[o 5336 0 1], 139, 0, none⟩),
e 626 139,
e 629 139,
e 632 139,
e 635 139,
e 638 139,
e 641 139,
(644, ⟨[o 5338 0 1], 139, 0, none⟩),
(650, ⟨[o 6077 0 1], 139, 0, none⟩),
e 653 139,
e 656 139,
e 659 139,
e 662 139,
e 665 139,
e 668 139,
(671, ⟨[o 6079 0 1], 139, 0, none⟩),
e 677 139,
e 680 139,
e 683 139,
e 686 139,
e 689 139,
e 692 139,
e 695 139,
e 698 139,
e 701 139,
e 704 139,
e 707 139,
e 710 139,
e 713 139,
e 716 139,
(718, ⟨[.ptr 455 0, .ptr 464 0, .ptr 473 0, .ptr 482 0, .ptr 491 0, .ptr 500 0, .ptr 509 0, .ptr 518 0, .ptr 527 0, .ptr 536 0, .ptr 545 0, .ptr 554 0, .ptr 563 0, .ptr 572 0, .ptr 581 0, .ptr 590 0, .ptr 599 0, .ptr 608 0, .ptr 617 0, .ptr 626 0, .ptr 635 0, .ptr 644 0, .ptr 653 0, .ptr 662 0, .ptr 671 0, .ptr 680 0, .ptr 689 0, .ptr 698 0, .ptr 707 0, .ptr 716 0], 136, 1, none⟩),
e 719 139,
(721, ⟨[.ptr 458 0, .ptr 7365 0, .ptr 476 0, .ptr 7373 0, .ptr 494 0, .ptr 503 0, .ptr 7381 0, .ptr 521 0, .ptr 530 0, .ptr 7389 0, .ptr 548 0, .ptr 557 0, .ptr 7397 0, .ptr 575 0, .ptr 584 0, .ptr 7405 0, .ptr 602 0, .ptr 611 0, .ptr 7413 0, .ptr 629 0, .ptr 638 0, .ptr 7421 0, .ptr 656 0, .ptr 665 0, .ptr 7429 0, .ptr 683 0, .ptr 692 0, .ptr 701 0, .ptr 710 0, .ptr 719 0], 136, 1, none⟩),
e 722 139,
(724, ⟨[.ptr 461 0, .ptr 470 0, .ptr 479 0, .ptr 488 0, .ptr 497 0, .ptr 506 0, .ptr 515 0, .ptr 524 0, .ptr 533 0, .ptr 542 0, .ptr 551 0, .ptr 560 0, .ptr 569 0, .ptr 578 0, .ptr 587 0, .ptr 596 0, .ptr 605 0, .ptr 614 0, .ptr 623 0, .ptr 632 0, .ptr 641 0, .ptr 650 0, .ptr 659 0, .ptr 668 0, .ptr 677 0, .ptr 686 0, .ptr 695 0, .ptr 704 0, .ptr 713 0, .ptr 722 0], 136, 1, none⟩),
(726, ⟨[.int .u64 (.ofNat 511)], 224, 1, none⟩),
(1094, ⟨[.int .u64 (.ofNat 1)], 224, 1, none⟩),
(1100, ⟨[.int .u64 (.ofNat 8)], 224, 1, none⟩),
(1102, ⟨[.int .u64 (.ofNat 1)], 224, 1, none⟩),
(1781, ⟨[.int .u64 (.ofNat 64)], 224, 1, none⟩),
(1783, ⟨[.int .u64 (.ofNat 1)], 224, 1, none⟩),
(2472, ⟨[.int .u64 (.ofNat 512)], 224, 1, none⟩),
(2474, ⟨[.int .u64 (.ofNat 1)], 224, 1, none⟩),
(3173, ⟨[.int .u64 (.ofNat 4096)], 224, 1, none⟩),
(3175, ⟨[.int .u64 (.ofNat 1)], 224, 1, none⟩),
(3884, ⟨[.int .u64 (.ofNat 32768)], 224, 1, none⟩),
(3886, ⟨[.int .u64 (.ofNat 1)], 224, 1, none⟩),
(4605, ⟨[.int .u64 (.ofNat 262144)], 224, 1, none⟩),
(4607, ⟨[.int .u64 (.ofNat 1)], 224, 1, none⟩),
(5336, ⟨[.int .u64 (.ofNat 2097152)], 224, 1, none⟩),
(5338, ⟨[.int .u64 (.ofNat 1)], 224, 1, none⟩),
(6077, ⟨[.int .u64 (.ofNat 16777216)], 224, 1, none⟩),
(6079, ⟨[.int .u64 (.ofNat 1)], 224, 1, none⟩),
(6081, ⟨[i 0, i 0, i 0, i 0, i 0, i 0, i 0, i 0, i 0], 3, 1, none⟩),
(7364, ⟨[.int .u64 (.ofNat 1)], 224, 1, none⟩),
(7365, ⟨[o 7364 0 1], 139, 0, none⟩),
(7372, ⟨[.int .u64 (.ofNat 1)], 224, 1, none⟩),
(7373, ⟨[o 7372 0 1], 139, 0, none⟩),
(7380, ⟨[.int .u64 (.ofNat 1)], 224, 1, none⟩),
(7381, ⟨[o 7380 0 1], 139, 0, none⟩),
(7388, ⟨[.int .u64 (.ofNat 1)], 224, 1, none⟩),
(7389, ⟨[o 7388 0 1], 139, 0, none⟩),
(7396, ⟨[.int .u64 (.ofNat 1)], 224, 1, none⟩),
(7397, ⟨[o 7396 0 1], 139, 0, none⟩),
(7404, ⟨[.int .u64 (.ofNat 1)], 224, 1, none⟩),
(7405, ⟨[o 7404 0 1], 139, 0, none⟩),
(7412, ⟨[.int .u64 (.ofNat 1)], 224, 1, none⟩),
(7413, ⟨[o 7412 0 1], 139, 0, none⟩),
(7420, ⟨[.int .u64 (.ofNat 1)], 224, 1, none⟩),
(7421, ⟨[o 7420 0 1], 139, 0, none⟩),
(7428, ⟨[.int .u64 (.ofNat 1)], 224, 1, none⟩),
(7429, ⟨[o 7428 0 1], 139, 0, none⟩)]
private noncomputable abbrev l5 : Bls := [(9145, ⟨[], 0, 0, some (.map [(0, .agg [i 4, i 0, i 0, i 1, i 0], .c (o 13576 0 1)), (1, .agg [i 4, i 0, i 0, i 1, i 1], .c (o 13591 0 1)), (2, .agg [i 4, i 0, i 0, i 1, i 2], .c (o 13606 0 1)), (3, .agg [i 1, i 1, i 0, i 0, i 0], .c (o 13643 0 1)), (4, .agg [i 5, i 1, i 0, i 0, i 0], .c (o 13648 0 1)), (5, .agg [i 3, i 1, i 0, i 1, i 0], .c (o 13705 0 2)), (6, .agg [i 1, i 2, i 0, i 0, i 0], .c (o 13688 0 1)), (7, .agg [i 3, i 1, i 0, i 1, i 1], .c (o 13722 0 1)), (8, .agg [i 3, i 1, i 0, i 1, i 2], .c (o 13739 0 1)), (9, .agg [i 2, i 1, i 0, i 0, i 0], .c (o 13769 0 1)), (10, .agg [i 5, i 2, i 0, i 0, i 0], .c (o 13774 0 1)), (11, .agg [i 4, i 1, i 0, i 1, i 0], .c (o 13827 0 2)), (12, .agg [i 1, i 4, i 0, i 0, i 0], .c (o 13812 0 1)), (13, .agg [i 2, i 2, i 0, i 0, i 0], .c (o 13857 0 1)), (14, .agg [i 5, i 3, i 0, i 0, i 0], .c (o 13862 0 1)), (15, .agg [i 4, i 2, i 0, i 1, i 0], .c (o 13915 0 2)), (16, .agg [i 1, i 6, i 0, i 0, i 0], .c (o 13900 0 1)), (17, .agg [i 2, i 3, i 0, i 0, i 0], .c (o 13945 0 1)), (18, .agg [i 5, i 4, i 0, i 0, i 0], .c (o 13950 0 1)), (19, .agg [i 4, i 3, i 0, i 1, i 0], .c (o 14003 0 2)), (20, .agg [i 1, i 8, i 0, i 0, i 0], .c (o 13988 0 1)), (21, .agg [i 2, i 4, i 0, i 0, i 0], .c (o 14033 0 1)), (22, .agg [i 5, i 5, i 0, i 0, i 0], .c (o 14038 0 1)), (23, .agg [i 4, i 4, i 0, i 1, i 0], .c (o 14091 0 2)), (24, .agg [i 1, i 10, i 0, i 0, i 0], .c (o 14076 0 1)), (25, .agg [i 2, i 5, i 0, i 0, i 0], .c (o 14121 0 1)), (26, .agg [i 5, i 6, i 0, i 0, i 0], .c (o 14126 0 1)), (27, .agg [i 4, i 5, i 0, i 1, i 0], .c (o 14179 0 2)), (28, .agg [i 1, i 12, i 0, i 0, i 0], .c (o 14164 0 1)), (29, .agg [i 2, i 6, i 0, i 0, i 0], .c (o 14209 0 1)), (30, .agg [i 5, i 7, i 0, i 0, i 0], .c (o 14214 0 1)), (31, .agg [i 4, i 6, i 0, i 1, i 0], .c (o 14267 0 2)), (32, .agg [i 1, i 14, i 0, i 0, i 0], .c (o 14252 0 1)), (33, .agg [i 2, i 7, i 0, i 0, i 0], .c (o 14297 0 1)), (34, .agg [i 5, i 8, i 0, i 0, i 0], .c (o 14302 0 1)), (35, .agg [i 4, i 7, i 0, i 1, i 0], .c (o 14355 0 2)), (36, .agg [i 1, i 16, i 0, i 0, i 0], .c (o 14340 0 1)), (37, .agg [i 4, i 8, i 0, i 1, i 0], .c (o 14423 0 2)), (38, .agg [i 1, i 18, i 0, i 0, i 0], .c (o 14408 0 1))] 39)⟩),
(9146, ⟨[.map 9145, .md 1 (.ofNat 0) true], 155, 0, none⟩),
(13576, ⟨[i 3, i 1, i 0, i 1, i 0], 116, 5, none⟩),
(13591, ⟨[i 3, i 1, i 0, i 1, i 1], 116, 5, none⟩),
(13606, ⟨[i 3, i 1, i 0, i 1, i 2], 116, 5, none⟩),
(13643, ⟨[i 2, i 1, i 0, i 0, i 0], 116, 5, none⟩),
(13648, ⟨[i 1, i 2, i 0, i 0, i 0], 116, 5, none⟩),
(13688, ⟨[i 5, i 0, i 0, i 0, i 0], 116, 5, none⟩),
(13705, ⟨[i 4, i 1, i 0, i 1, i 0, i 6, i 0, i 0, i 1, i 0], 116, 5, none⟩),
(13722, ⟨[i 6, i 0, i 0, i 1, i 1], 116, 5, none⟩),
(13739, ⟨[i 6, i 0, i 0, i 1, i 2], 116, 5, none⟩),
(13769, ⟨[i 2, i 2, i 0, i 0, i 0], 116, 5, none⟩),
(13774, ⟨[i 1, i 4, i 0, i 0, i 0], 116, 5, none⟩),
(13812, ⟨[i 5, i 1, i 0, i 0, i 0], 116, 5, none⟩),
(13827, ⟨[i 4, i 2, i 0, i 1, i 0, i 6, i 1, i 0, i 1, i 0], 116, 5, none⟩),
(13857, ⟨[i 2, i 3, i 0, i 0, i 0], 116, 5, none⟩),
(13862, ⟨[i 1, i 6, i 0, i 0, i 0], 116, 5, none⟩),
(13900, ⟨[i 5, i 2, i 0, i 0, i 0], 116, 5, none⟩),
(13915, ⟨[i 4, i 3, i 0, i 1, i 0, i 6, i 2, i 0, i 1, i 0], 116, 5, none⟩),
(13945, ⟨[i 2, i 4, i 0, i 0, i 0], 116, 5, none⟩),
(13950, ⟨[i 1, i 8, i 0, i 0, i 0], 116, 5, none⟩),
(13988, ⟨[i 5, i 3, i 0, i 0, i 0], 116, 5, none⟩),
(14003, ⟨[i 4, i 4, i 0, i 1, i 0, i 6, i 3, i 0, i 1, i 0], 116, 5, none⟩),
(14033, ⟨[i 2, i 5, i 0, i 0, i 0], 116, 5, none⟩),
(14038, ⟨[i 1, i 10, i 0, i 0, i 0], 116, 5, none⟩),
(14076, ⟨[i 5, i 4, i 0, i 0, i 0], 116, 5, none⟩),
(14091, ⟨[i 4, i 5, i 0, i 1, i 0, i 6, i 4, i 0, i 1, i 0], 116, 5, none⟩),
(14121, ⟨[i 2, i 6, i 0, i 0, i 0], 116, 5, none⟩),
(14126, ⟨[i 1, i 12, i 0, i 0, i 0], 116, 5, none⟩),
(14164, ⟨[i 5, i 5, i 0, i 0, i 0], 116, 5, none⟩),
(14179, ⟨[i 4, i 6, i 0, i 1, i 0, i 6, i 5, i 0, i 1, i 0], 116, 5, none⟩),
(14209, ⟨[i 2, i 7, i 0, i 0, i 0], 116, 5, none⟩),
(14214, ⟨[i 1, i 14, i 0, i 0, i 0], 116, 5, none⟩),
(14252, ⟨[i 5, i 6, i 0, i 0, i 0], 116, 5, none⟩),
(14267, ⟨[i 4, i 7, i 0, i 1, i 0, i 6, i 6, i 0, i 1, i 0], 116, 5, none⟩),
(14297, ⟨[i 2, i 8, i 0, i 0, i 0], 116, 5, none⟩),
(14302, ⟨[i 1, i 16, i 0, i 0, i 0], 116, 5, none⟩),
(14340, ⟨[i 5, i 7, i 0, i 0, i 0], 116, 5, none⟩),
(14355, ⟨[i 4, i 8, i 0, i 1, i 0, i 6, i 7, i 0, i 1, i 0], 116, 5, none⟩),
(14408, ⟨[i 5, i 8, i 0, i 0, i 0], 116, 5, none⟩),
(14423, ⟨[i 1, i 18, i 0, i 0, i 0, i 6, i 8, i 0, i 1, i 0], 116, 5, none⟩)]
private noncomputable def m0 : MM := ⟨[48], l0, 126, [⟨48, 0, [.v (.c (.ptr 12 0))], .v (.c (.nili))⟩]⟩
private theorem m0_k : H0.tbl m0 = true := by kernel_rfl
private noncomputable def h1 : HK := H0.memo m0 m0_k
private noncomputable def m1 : MM := ⟨[155], l1, 277, [⟨155, 0, [.v (.c (.ptr 12 0)), .v (.c (i 0))], .tup [.agg [i 0, i 0, i 0], .c (.bool true)]⟩,
⟨155, 1, [.v (.c (.ptr 12 0)), .v (.c (i 1))], .tup [.agg [i 0, i 0, i 1], .c (.bool true)]⟩,
⟨155, 2, [.v (.c (.ptr 12 0)), .v (.c (i 2))], .tup [.agg [i 0, i 0, i 2], .c (.bool true)]⟩,
⟨155, 3, [.v (.c (.ptr 12 0)), .v (.c (i 3))], .tup [.agg [i 0, i 0, i 3], .c (.bool true)]⟩,
⟨155, 4, [.v (.c (.ptr 12 0)), .v (.c (i 4))], .tup [.agg [i 1, i 0, i 0], .c (.bool true)]⟩,
⟨155, 5, [.v (.c (.ptr 12 0)), .v (.c (i 5))], .tup [.agg [i 1, i 0, i 1], .c (.bool true)]⟩,
⟨155, 6, [.v (.c (.ptr 12 0)), .v (.c (i 6))], .tup [.agg [i 2, i 0, i 0], .c (.bool true)]⟩,
⟨155, 7, [.v (.c (.ptr 12 0)), .v (.c (i 7))], .tup [.agg [i 2, i 0, i 1], .c (.bool true)]⟩,
⟨155, 8, [.v (.c (.ptr 12 0)), .v (.c (i 8))], .tup [.agg [i 3, i 0, i 0], .c (.bool true)]⟩,
⟨155, 9, [.v (.c (.ptr 12 0)), .v (.c (i 9))], .tup [.agg [i 3, i 0, i 1], .c (.bool true)]⟩,
⟨155, 10, [.v (.c (.ptr 12 0)), .v (.c (i 10))], .tup [.agg [i 4, i 0, i 0], .c (.bool true)]⟩,
⟨155, 11, [.v (.c (.ptr 12 0)), .v (.c (i 11))], .tup [.agg [i 4, i 0, i 1], .c (.bool true)]⟩,
⟨155, 12, [.v (.c (.ptr 12 0)), .v (.c (i 12))], .tup [.agg [i 5, i 0, i 0], .c (.bool true)]⟩,
⟨155, 13, [.v (.c (.ptr 12 0)), .v (.c (i 13))], .tup [.agg [i 5, i 0, i 1], .c (.bool true)]⟩,
⟨155, 14, [.v (.c (.ptr 12 0)), .v (.c (i 14))], .tup [.agg [i 6, i 0, i 0], .c (.bool true)]⟩,
⟨155, 15, [.v (.c (.ptr 12 0)), .v (.c (i 15))], .tup [.agg [i 6, i 0, i 1], .c (.bool true)]⟩,
⟨155, 16, [.v (.c (.ptr 12 0)), .v (.c (i 16))], .tup [.agg [i 7, i 0, i 0], .c (.bool true)]⟩,
⟨155, 17, [.v (.c (.ptr 12 0)), .v (.c (i 17))], .tup [.agg [i 7, i 0, i 1], .c (.bool true)]⟩,
⟨155, 18, [.v (.c (.ptr 12 0)), .v (.c (i 18))], .tup [.agg [i 8, i 0, i 0], .c (.bool true)]⟩,
⟨155, 19, [.v (.c (.ptr 12 0)), .v (.c (i 19))], .tup [.agg [i 8, i 0, i 1], .c (.bool true)]⟩]⟩
private theorem m1_k : h1.tbl m1 = true := by kernel_rfl
private noncomputable def h2 : HK := h1.memo m1 m1_k
private noncomputable def s1 : RE := ⟨76, [.v (.c (.ptr 12 0))], 126, .v (.c (.ptr 126 0)), l2, 388⟩
private theorem s1_k : h2.srp l0 s1 = true := by kernel_rfl
private noncomputable def h3 : HK := h2.srep _ s1 s1_k
private noncomputable def s2 : RE := ⟨87, [.v (.c (.ptr 12 0))], 990, .v (.c (o 1029 0 20)), [(1029, ⟨[i 0, i 0, i 0, i 0, i 0, i 1, i 0, i 0, i 2, i 0, i 0, i 3, i 1, i 0, i 0, i 1, i 0, i 1, i 2, i 0, i 0, i 2, i 0, i 1, i 3, i 0, i 0, i 3, i 0, i 1, i 4, i 0, i 0, i 4, i 0, i 1, i 5, i 0, i 0, i 5, i 0, i 1, i 6, i 0, i 0, i 6, i 0, i 1, i 7, i 0, i 0, i 7, i 0, i 1, i 8, i 0, i 0, i 8, i 0, i 1], 88, 3, none⟩)], 1030⟩
private theorem s2_k : h3.srp l0 s2 = true := by kernel_rfl
private noncomputable def h4 : HK := h3.srep _ s2 s2_k
private noncomputable def s3 : RE := ⟨49, [.v (.c (.ptr 12 0)), .v (.c (.snil))], 126, .v (.c (.ptr 454 0)), l3, 7430⟩
private theorem s3_k : h4.rep l0 s3 = true := by kernel_rfl
private noncomputable def h5 : HK := h4.repl _ s3 s3_k
private noncomputable def s4 : RE := ⟨151, [.v (.c (.ptr 12 0)), .v (.c (.ptr 454 0)), .v (.c (i 2))], 7670, .v (.c (.snil)), [], 7867⟩
private theorem s4_k : h5.srp l4 s4 = true := by kernel_rfl
private noncomputable def h6 : HK := h5.srep _ s4 s4_k
private noncomputable def s5 : RE := ⟨151, [.v (.c (.ptr 12 0)), .v (.c (.ptr 454 0)), .v (.c (i 4))], 7883, .v (.c (.snil)), [], 8071⟩
private theorem s5_k : h6.srp l4 s5 = true := by kernel_rfl
private noncomputable def h7 : HK := h6.srep _ s5 s5_k
private noncomputable def s6 : RE := ⟨151, [.v (.c (.ptr 12 0)), .v (.c (.ptr 454 0)), .v (.c (i 6))], 8087, .v (.c (.snil)), [], 8266⟩
private theorem s6_k : h7.srp l4 s6 = true := by kernel_rfl
private noncomputable def h8 : HK := h7.srep _ s6 s6_k
private noncomputable def s7 : RE := ⟨151, [.v (.c (.ptr 12 0)), .v (.c (.ptr 454 0)), .v (.c (i 8))], 8282, .v (.c (.snil)), [], 8452⟩
private theorem s7_k : h8.srp l4 s7 = true := by kernel_rfl
private noncomputable def h9 : HK := h8.srep _ s7 s7_k
private noncomputable def s8 : RE := ⟨151, [.v (.c (.ptr 12 0)), .v (.c (.ptr 454 0)), .v (.c (i 10))], 8468, .v (.c (.snil)), [], 8629⟩
private theorem s8_k : h9.srp l4 s8 = true := by kernel_rfl
private noncomputable def h10 : HK := h9.srep _ s8 s8_k
private noncomputable def s9 : RE := ⟨151, [.v (.c (.ptr 12 0)), .v (.c (.ptr 454 0)), .v (.c (i 12))], 8645, .v (.c (.snil)), [], 8797⟩
private theorem s9_k : h10.srp l4 s9 = true := by kernel_rfl
private noncomputable def h11 : HK := h10.srep _ s9 s9_k
private noncomputable def s10 : RE := ⟨151, [.v (.c (.ptr 12 0)), .v (.c (.ptr 454 0)), .v (.c (i 14))], 8813, .v (.c (.snil)), [], 8956⟩
private theorem s10_k : h11.srp l4 s10 = true := by kernel_rfl
private noncomputable def h12 : HK := h11.srep _ s10 s10_k
private noncomputable def s11 : RE := ⟨151, [.v (.c (.ptr 12 0)), .v (.c (.ptr 454 0)), .v (.c (i 16))], 8972, .v (.c (.snil)), [], 9106⟩
private theorem s11_k : h12.srp l4 s11 = true := by kernel_rfl
private noncomputable def h13 : HK := h12.srep _ s11 s11_k
private noncomputable def s12 : RE := ⟨85, [.v (.c (.ptr 12 0)), .v (.c (.ptr 454 0)), .v (.c (i 0))], 9148, .v (.c (o 9567 0 3)), [(9567, ⟨[i 1, i 0, i 1, i 1, i 1, i 2, i 0, i 0], 114, 2, none⟩)], 9583⟩
private theorem s12_k : h13.srp l4 s12 = true := by kernel_rfl
private noncomputable def h14 : HK := h13.srep _ s12 s12_k
private noncomputable def s13 : RE := ⟨86, [.v (.c (.ptr 12 0)), .v (.c (.ptr 454 0)), .v (.c (i 0))], 9585, .v (.c (o 9699 0 3)), [(9699, ⟨[i 1, i 0, i 1, i 1, i 1, i 2], 114, 2, none⟩)], 9796⟩
private theorem s13_k : h14.srp l4 s13 = true := by kernel_rfl
private noncomputable def h15 : HK := h14.srep _ s13 s13_k
private noncomputable def s14 : RE := ⟨85, [.v (.c (.ptr 12 0)), .v (.c (.ptr 454 0)), .v (.c (i 1))], 9798, .v (.c (o 10170 0 1)), [(10170, ⟨[i 1, i 0], 114, 2, none⟩)], 10171⟩
private theorem s14_k : h15.srp l4 s14 = true := by kernel_rfl
private noncomputable def h16 : HK := h15.srep _ s14 s14_k
private noncomputable def s15 : RE := ⟨86, [.v (.c (.ptr 12 0)), .v (.c (.ptr 454 0)), .v (.c (i 1))], 10173, .v (.c (.snil)), [], 10354⟩
private theorem s15_k : h16.srp l4 s15 = true := by kernel_rfl
private noncomputable def h17 : HK := h16.srep _ s15 s15_k
private noncomputable def s16 : RE := ⟨85, [.v (.c (.ptr 12 0)), .v (.c (.ptr 454 0)), .v (.c (i 2))], 10356, .v (.c (o 10710 0 1)), [(10710, ⟨[i 1, i 0], 114, 2, none⟩)], 10711⟩
private theorem s16_k : h17.srp l4 s16 = true := by kernel_rfl
private noncomputable def h18 : HK := h17.srep _ s16 s16_k
private noncomputable def s17 : RE := ⟨86, [.v (.c (.ptr 12 0)), .v (.c (.ptr 454 0)), .v (.c (i 2))], 10713, .v (.c (.snil)), [], 10885⟩
private theorem s17_k : h18.srp l4 s17 = true := by kernel_rfl
private noncomputable def h19 : HK := h18.srep _ s17 s17_k
private noncomputable def s18 : RE := ⟨85, [.v (.c (.ptr 12 0)), .v (.c (.ptr 454 0)), .v (.c (i 3))], 10887, .v (.c (o 11223 0 1)), [(11223, ⟨[i 1, i 0], 114, 2, none⟩)], 11224⟩
private theorem s18_k : h19.srp l4 s18 = true := by kernel_rfl
private noncomputable def h20 : HK := h19.srep _ s18 s18_k
private noncomputable def s19 : RE := ⟨86, [.v (.c (.ptr 12 0)), .v (.c (.ptr 454 0)), .v (.c (i 3))], 11226, .v (.c (.snil)), [], 11389⟩
private theorem s19_k : h20.srp l4 s19 = true := by kernel_rfl
private noncomputable def h21 : HK := h20.srep _ s19 s19_k
private noncomputable def s20 : RE := ⟨85, [.v (.c (.ptr 12 0)), .v (.c (.ptr 454 0)), .v (.c (i 4))], 11391, .v (.c (o 11709 0 1)), [(11709, ⟨[i 1, i 0], 114, 2, none⟩)], 11710⟩
private theorem s20_k : h21.srp l4 s20 = true := by kernel_rfl
private noncomputable def h22 : HK := h21.srep _ s20 s20_k
private noncomputable def s21 : RE := ⟨86, [.v (.c (.ptr 12 0)), .v (.c (.ptr 454 0)), .v (.c (i 4))], 11712, .v (.c (.snil)), [], 11866⟩
private theorem s21_k : h22.srp l4 s21 = true := by kernel_rfl
private noncomputable def h23 : HK := h22.srep _ s21 s21_k
private noncomputable def s22 : RE := ⟨85, [.v (.c (.ptr 12 0)), .v (.c (.ptr 454 0)), .v (.c (i 5))], 11868, .v (.c (o 12168 0 1)), [(12168, ⟨[i 1, i 0], 114, 2, none⟩)], 12169⟩
private theorem s22_k : h23.srp l4 s22 = true := by kernel_rfl
private noncomputable def h24 : HK := h23.srep _ s22 s22_k
private noncomputable def s23 : RE := ⟨86, [.v (.c (.ptr 12 0)), .v (.c (.ptr 454 0)), .v (.c (i 5))], 12171, .v (.c (.snil)), [], 12316⟩
private theorem s23_k : h24.srp l4 s23 = true := by kernel_rfl
private noncomputable def h25 : HK := h24.srep _ s23 s23_k
private noncomputable def s24 : RE := ⟨85, [.v (.c (.ptr 12 0)), .v (.c (.ptr 454 0)), .v (.c (i 6))], 12318, .v (.c (o 12600 0 1)), [(12600, ⟨[i 1, i 0], 114, 2, none⟩)], 12601⟩
private theorem s24_k : h25.srp l4 s24 = true := by kernel_rfl
private noncomputable def h26 : HK := h25.srep _ s24 s24_k
private noncomputable def s25 : RE := ⟨86, [.v (.c (.ptr 12 0)), .v (.c (.ptr 454 0)), .v (.c (i 6))], 12603, .v (.c (.snil)), [], 12739⟩
private theorem s25_k : h26.srp l4 s25 = true := by kernel_rfl
private noncomputable def h27 : HK := h26.srep _ s25 s25_k
private noncomputable def s26 : RE := ⟨85, [.v (.c (.ptr 12 0)), .v (.c (.ptr 454 0)), .v (.c (i 7))], 12741, .v (.c (o 13005 0 1)), [(13005, ⟨[i 1, i 0], 114, 2, none⟩)], 13006⟩
private theorem s26_k : h27.srp l4 s26 = true := by kernel_rfl
private noncomputable def h28 : HK := h27.srep _ s26 s26_k
private noncomputable def s27 : RE := ⟨86, [.v (.c (.ptr 12 0)), .v (.c (.ptr 454 0)), .v (.c (i 7))], 13008, .v (.c (.snil)), [], 13135⟩
private theorem s27_k : h28.srp l4 s27 = true := by kernel_rfl
private noncomputable def h29 : HK := h28.srep _ s27 s27_k
private noncomputable def s28 : RE := ⟨85, [.v (.c (.ptr 12 0)), .v (.c (.ptr 454 0)), .v (.c (i 8))], 13137, .v (.c (o 13383 0 1)), [(13383, ⟨[i 1, i 0], 114, 2, none⟩)], 13384⟩
private theorem s28_k : h29.srp l4 s28 = true := by kernel_rfl
private noncomputable def h30 : HK := h29.srep _ s28 s28_k
private noncomputable def s29 : RE := ⟨86, [.v (.c (.ptr 12 0)), .v (.c (.ptr 454 0)), .v (.c (i 8))], 13386, .v (.c (.snil)), [], 13504⟩
private theorem s29_k : h30.srp l4 s29 = true := by kernel_rfl
private noncomputable def h31 : HK := h30.srep _ s29 s29_k
private noncomputable def s30 : RE := ⟨50, [.v (.c (.ptr 12 0)), .v (.c (.ptr 454 0))], 7430, .v (.c (.ptr 9146 0)), l5, 14425⟩
private theorem s30_k : h31.rep l4 s30 = true := by kernel_rfl
private noncomputable def h32 : HK := h31.repl _ s30 s30_k
theorem TopNilParam_7_f_run : isBool true (runW h32.K 12 [mi 8 7, ab false] s0) = true := by kernel_rfl
theorem TopNilParam_7_f_law {args : Array Value} (ha : VAs (fun _ => none) [mi 8 7, ab false] args.toList) (w : World) (hT : Tab w) :
    Calls Tryz.prog 12 args w fun e w' => Below w.heap.size w w' ∧ e = .returned (.bool true) := h32.law TopNilParam_7_f_run ha w hT
end Go.Proofs.YteajpblmbmncdaaGreatDoor
