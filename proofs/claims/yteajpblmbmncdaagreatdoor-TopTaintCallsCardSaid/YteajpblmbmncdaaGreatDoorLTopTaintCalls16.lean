/- Tables of calls, and a run that uses them. -/
import Derived.Test.YteajpblmbmncdaaGreatDoorLn
namespace Go.Proofs.YteajpblmbmncdaaGreatDoor
open Go Go.RowKit Ev
set_option maxRecDepth 100000
set_option linter.unusedVariables false
private noncomputable abbrev i (n : Nat) : CV := .int .i64 (.ofNat n)
private noncomputable abbrev o (b a n : Nat) : CV := .slice b a n (.opn 0)
private noncomputable abbrev f (b a n : Nat) : CV := .slice b a n (.fix n)
private noncomputable abbrev e (k t : Nat) : Nat × BK := (k, ⟨[.snil], t, 0, none⟩)
private noncomputable abbrev l0 : Bls := [(1, ⟨[i 0, i 0, i 0, i 0, i 1, i 0], 69, 0, none⟩),
(2, ⟨[f 1 0 3], 47, 0, none⟩),
(4, ⟨[i 1, i 0], 69, 0, none⟩),
(5, ⟨[i 0, i 0], 69, 0, none⟩),
(7, ⟨[i 1, i 0], 69, 0, none⟩),
(9, ⟨[.snil, i 0, i 0, f 4 0 1, i 0, i 0, f 5 0 1, i 0, i 0, f 7 0 1, i 1, i 0], 72, 0, none⟩),
(10, ⟨[i 0], 3, 0, none⟩),
(11, ⟨[f 10 0 1], 74, 0, none⟩),
(12, ⟨[f 2 0 1, f 9 0 4, f 11 0 1, .snil, o 134 0 10, i 0], 57, 0, none⟩),
(19, ⟨[i 0, i 0, i 0, i 0], 69, 2, none⟩),
(20, ⟨[o 30 0 3, i 3, i 0, i 0, i 0], 46, 0, none⟩),
(26, ⟨[i 0], 3, 0, none⟩),
(30, ⟨[i 1, i 0, i 0, i 0, i 5, .snil, i 12, i 1, i 0, i 0, i 1, f 26 0 1, i 15, i 0, i 1, i 0, i 0, .snil], 29, 6, none⟩),
(35, ⟨[i 0, i 0, i 0, i 0], 69, 2, none⟩),
(36, ⟨[o 42 0 1, i 3, i 0, i 0, i 0], 46, 0, none⟩),
(39, ⟨[i 0], 3, 0, none⟩),
(42, ⟨[i 12, i 0, i 0, i 0, i 2, f 39 0 1], 29, 6, none⟩),
(47, ⟨[i 0, i 0, i 0, i 0], 69, 2, none⟩),
(48, ⟨[o 54 0 1, i 3, i 0, i 0, i 0], 46, 0, none⟩),
(51, ⟨[i 0], 3, 0, none⟩),
(54, ⟨[i 12, i 0, i 0, i 0, i 3, f 51 0 1], 29, 6, none⟩),
(59, ⟨[i 0, i 0, i 0, i 0], 69, 2, none⟩),
(60, ⟨[o 66 0 1, i 3, i 0, i 0, i 0], 46, 0, none⟩),
(63, ⟨[i 0], 3, 0, none⟩),
(66, ⟨[i 12, i 0, i 0, i 0, i 4, f 63 0 1], 29, 6, none⟩),
(71, ⟨[i 0, i 0, i 0, i 0], 69, 2, none⟩),
(72, ⟨[o 78 0 1, i 3, i 0, i 0, i 0], 46, 0, none⟩),
(75, ⟨[i 0], 3, 0, none⟩),
(78, ⟨[i 12, i 0, i 0, i 0, i 5, f 75 0 1], 29, 6, none⟩),
(83, ⟨[i 0, i 0, i 0, i 0], 69, 2, none⟩),
(84, ⟨[o 90 0 1, i 3, i 0, i 0, i 0], 46, 0, none⟩),
(87, ⟨[i 0], 3, 0, none⟩),
(90, ⟨[i 12, i 0, i 0, i 0, i 6, f 87 0 1], 29, 6, none⟩),
(95, ⟨[i 0, i 0, i 0, i 0], 69, 2, none⟩),
(96, ⟨[o 102 0 1, i 3, i 0, i 0, i 0], 46, 0, none⟩),
(99, ⟨[i 0], 3, 0, none⟩),
(102, ⟨[i 12, i 0, i 0, i 0, i 7, f 99 0 1], 29, 6, none⟩),
(107, ⟨[i 0, i 0, i 0, i 0], 69, 2, none⟩),
(108, ⟨[o 114 0 1, i 3, i 0, i 0, i 0], 46, 0, none⟩),
(111, ⟨[i 0], 3, 0, none⟩),
(114, ⟨[i 12, i 0, i 0, i 0, i 8, f 111 0 1], 29, 6, none⟩),
(119, ⟨[i 0, i 0, i 0, i 0], 69, 2, none⟩),
(120, ⟨[o 126 0 1, i 3, i 0, i 0, i 0], 46, 0, none⟩),
(123, ⟨[i 0], 3, 0, none⟩),
(126, ⟨[i 12, i 0, i 0, i 0, i 9, f 123 0 1], 29, 6, none⟩),
(131, ⟨[i 0, i 0, i 0, i 0], 69, 2, none⟩),
(132, ⟨[.snil, i 3, i 0, i 0, i 0], 46, 0, none⟩),
(134, ⟨[i 0, o 19 0 2, f 20 0 1, i 2, o 35 0 2, f 36 0 1, i 2, o 47 0 2, f 48 0 1, i 2, o 59 0 2, f 60 0 1, i 2, o 71 0 2, f 72 0 1, i 2, o 83 0 2, f 84 0 1, i 2, o 95 0 2, f 96 0 1, i 2, o 107 0 2, f 108 0 1, i 2, o 119 0 2, f 120 0 1, i 2, o 131 0 2, f 132 0 1], 50, 3, none⟩)]
private noncomputable abbrev l1 : Bls := [(12, ⟨[f 2 0 1, f 9 0 4, f 11 0 1, .snil, o 134 0 10, i 0], 57, 0, none⟩),
(20, ⟨[o 30 0 3, i 3, i 0, i 0, i 0], 46, 0, none⟩),
(36, ⟨[o 42 0 1, i 3, i 0, i 0, i 0], 46, 0, none⟩),
(48, ⟨[o 54 0 1, i 3, i 0, i 0, i 0], 46, 0, none⟩),
(60, ⟨[o 66 0 1, i 3, i 0, i 0, i 0], 46, 0, none⟩),
(72, ⟨[o 78 0 1, i 3, i 0, i 0, i 0], 46, 0, none⟩),
(84, ⟨[o 90 0 1, i 3, i 0, i 0, i 0], 46, 0, none⟩),
(96, ⟨[o 102 0 1, i 3, i 0, i 0, i 0], 46, 0, none⟩),
(108, ⟨[o 114 0 1, i 3, i 0, i 0, i 0], 46, 0, none⟩),
(120, ⟨[o 126 0 1, i 3, i 0, i 0, i 0], 46, 0, none⟩),
(132, ⟨[.snil, i 3, i 0, i 0, i 0], 46, 0, none⟩),
(134, ⟨[i 0, o 19 0 2, f 20 0 1, i 2, o 35 0 2, f 36 0 1, i 2, o 47 0 2, f 48 0 1, i 2, o 59 0 2, f 60 0 1, i 2, o 71 0 2, f 72 0 1, i 2, o 83 0 2, f 84 0 1, i 2, o 95 0 2, f 96 0 1, i 2, o 107 0 2, f 108 0 1, i 2, o 119 0 2, f 120 0 1, i 2, o 131 0 2, f 132 0 1], 50, 3, none⟩)]
private noncomputable abbrev l2 : Bls := [(135, ⟨[o 251 0 10, o 255 0 10, .snil, .snil, .snil, i 30], 230, 0, none⟩),
(141, ⟨[i 0, i 1], 3, 1, none⟩),
(153, ⟨[i 3, i 4], 3, 1, none⟩),
(165, ⟨[i 6, i 7], 3, 1, none⟩),
(177, ⟨[i 9, i 10], 3, 1, none⟩),
(189, ⟨[i 12, i 13], 3, 1, none⟩),
(201, ⟨[i 15, i 16], 3, 1, none⟩),
(213, ⟨[i 18, i 19], 3, 1, none⟩),
(225, ⟨[i 21, i 22], 3, 1, none⟩),
(237, ⟨[i 24, i 25], 3, 1, none⟩),
(249, ⟨[i 27, i 28], 3, 1, none⟩),
(251, ⟨[o 141 0 2, o 153 0 2, o 165 0 2, o 177 0 2, o 189 0 2, o 201 0 2, o 213 0 2, o 225 0 2, o 237 0 2, o 249 0 2], 27, 1, none⟩),
(255, ⟨[i 2, i 5, i 8, i 11, i 14, i 17, i 20, i 23, i 26, i 29], 3, 1, none⟩)]
private noncomputable abbrev l3 : Bls := [(135, ⟨[o 251 0 10, o 255 0 10, .snil, .snil, .snil, i 30], 230, 0, none⟩),
(141, ⟨[i 0, i 1], 3, 1, none⟩),
(153, ⟨[i 3, i 4], 3, 1, none⟩),
(165, ⟨[i 6, i 7], 3, 1, none⟩),
(177, ⟨[i 9, i 10], 3, 1, none⟩),
(189, ⟨[i 12, i 13], 3, 1, none⟩),
(201, ⟨[i 15, i 16], 3, 1, none⟩),
(213, ⟨[i 18, i 19], 3, 1, none⟩),
(225, ⟨[i 21, i 22], 3, 1, none⟩),
(237, ⟨[i 24, i 25], 3, 1, none⟩),
(249, ⟨[i 27, i 28], 3, 1, none⟩),
(251, ⟨[o 141 0 2, o 153 0 2, o 165 0 2, o 177 0 2, o 189 0 2, o 201 0 2, o 213 0 2, o 225 0 2, o 237 0 2, o 249 0 2], 27, 1, none⟩),
(255, ⟨[i 2, i 5, i 8, i 11, i 14, i 17, i 20, i 23, i 26, i 29], 3, 1, none⟩),
(403, ⟨[o 463 0 30], 233, 0, none⟩),
(463, ⟨[i 0, i 1, i 2, i 3, i 4, i 5, i 6, i 7, i 8, i 9, i 10, i 11, i 12, i 13, i 14, i 15, i 16, i 17, i 18, i 19, i 20, i 21, i 22, i 23, i 24, i 25, i 26, i 27, i 28, i 29], 3, 1, none⟩),
(464, ⟨[.snil, .snil, .snil, .snil, .snil, .snil, .snil, .snil, .snil, .snil, .snil, .snil, .snil, .snil, .snil, .snil, .snil, .snil, .snil, .snil, .snil, .snil, .snil, .snil, .snil, .snil, .snil, .snil, .snil, .snil], 238, 0, none⟩),
(465, ⟨[o 741 0 1], 139, 0, none⟩),
(466, ⟨[], 0, 0, some (.map [(0, .agg [i 1, i 1], .c (.bool true)), (1, .agg [i 4, i 2], .c (.bool true)), (2, .agg [i 6, i 3], .c (.bool true)), (3, .agg [i 8, i 4], .c (.bool true)), (4, .agg [i 10, i 5], .c (.bool true)), (5, .agg [i 12, i 6], .c (.bool true)), (6, .agg [i 14, i 7], .c (.bool true)), (7, .agg [i 16, i 8], .c (.bool true)), (8, .agg [i 18, i 9], .c (.bool true))] 9)⟩),
(467, ⟨[], 0, 0, some (.map [] 0)⟩),
(468, ⟨[.snil, .snil, .map 467, i 0], 237, 0, none⟩),
(469, ⟨[.ptr 12 0, .ptr 135 0, .ptr 403 0, o 733 0 30, o 736 0 30, o 739 0 30, f 464 0 30, .ptr 465 0, .map 466, .ptr 468 0], 145, 0, none⟩),
e 470 139,
e 473 139,
e 476 139,
e 479 139,
e 482 139,
e 485 139,
e 488 139,
e 491 139,
e 494 139,
e 497 139,
e 500 139,
e 503 139,
e 506 139,
e 509 139,
e 512 139,
e 515 139,
e 518 139,
e 521 139,
e 524 139,
e 527 139,
e 530 139,
e 533 139,
e 536 139,
e 539 139,
e 542 139,
e 545 139,
e 548 139,
e 551 139,
e 554 139,
e 557 139,
e 560 139,
e 563 139,
e 566 139,
e 569 139,
e 572 139,
e 575 139,
e 578 139,
e 581 139,
e 584 139,
e 587 139,
e 590 139,
e 593 139,
e 596 139,
e 599 139,
e 602 139,
e 605 139,
e 608 139,
e 611 139,
e 614 139,
e 617 139,
e 620 139,
e 623 139,
e 626 139,
e 629 139,
e 632 139,
e 635 139,
e 638 139,
e 641 139,
e 644 139,
e 647 139,
e 650 139,
e 653 139,
e 656 139,
e 659 139,
e 662 139,
e 665 139,
e 668 139,
e 671 139,
e 674 139,
e 677 139,
e 680 139,
e 683 139,
e 686 139,
e 689 139,
e 692 139,
e 695 139,
e 698 139,
e 701 139,
e 704 139,
e 707 139,
e 710 139,
e 713 139,
e 716 139,
e 719 139,
e 722 139,
e 725 139,
e 728 139,
e 731 139,
(733, ⟨[.ptr 470 0, .ptr 479 0, .ptr 488 0, .ptr 497 0, .ptr 506 0, .ptr 515 0, .ptr 524 0, .ptr 533 0, .ptr 542 0, .ptr 551 0, .ptr 560 0, .ptr 569 0, .ptr 578 0, .ptr 587 0, .ptr 596 0, .ptr 605 0, .ptr 614 0, .ptr 623 0, .ptr 632 0, .ptr 641 0, .ptr 650 0, .ptr 659 0, .ptr 668 0, .ptr 677 0, .ptr 686 0, .ptr 695 0, .ptr 704 0, .ptr 713 0, .ptr 722 0, .ptr 731 0], 136, 1, none⟩),
e 734 139,
(736, ⟨[.ptr 473 0, .ptr 482 0, .ptr 491 0, .ptr 500 0, .ptr 509 0, .ptr 518 0, .ptr 527 0, .ptr 536 0, .ptr 545 0, .ptr 554 0, .ptr 563 0, .ptr 572 0, .ptr 581 0, .ptr 590 0, .ptr 599 0, .ptr 608 0, .ptr 617 0, .ptr 626 0, .ptr 635 0, .ptr 644 0, .ptr 653 0, .ptr 662 0, .ptr 671 0, .ptr 680 0, .ptr 689 0, .ptr 698 0, .ptr 707 0, .ptr 716 0, .ptr 725 0, .ptr 734 0], 136, 1, none⟩),
e 737 139,
(739, ⟨[.ptr 476 0, .ptr 485 0, .ptr 494 0, .ptr 503 0, .ptr 512 0, .ptr 521 0, .ptr 530 0, .ptr 539 0, .ptr 548 0, .ptr 557 0, .ptr 566 0, .ptr 575 0, .ptr 584 0, .ptr 593 0, .ptr 602 0, .ptr 611 0, .ptr 620 0, .ptr 629 0, .ptr 638 0, .ptr 647 0, .ptr 656 0, .ptr 665 0, .ptr 674 0, .ptr 683 0, .ptr 692 0, .ptr 701 0, .ptr 710 0, .ptr 719 0, .ptr 728 0, .ptr 737 0], 136, 1, none⟩),
(741, ⟨[.int .u64 (.ofNat 1023)], 224, 1, none⟩)]
private noncomputable abbrev l4 : Bls := [(1, ⟨[i 0, i 0, i 0, i 0, i 1, i 0], 69, 0, none⟩),
(2, ⟨[f 1 0 3], 47, 0, none⟩),
(4, ⟨[i 1, i 0], 69, 0, none⟩),
(5, ⟨[i 0, i 0], 69, 0, none⟩),
(7, ⟨[i 1, i 0], 69, 0, none⟩),
(9, ⟨[.snil, i 0, i 0, f 4 0 1, i 0, i 0, f 5 0 1, i 0, i 0, f 7 0 1, i 1, i 0], 72, 0, none⟩),
(10, ⟨[i 0], 3, 0, none⟩),
(11, ⟨[f 10 0 1], 74, 0, none⟩),
(12, ⟨[f 2 0 1, f 9 0 4, f 11 0 1, .snil, o 134 0 10, i 0], 57, 0, none⟩),
(19, ⟨[i 0, i 0, i 0, i 0], 69, 2, none⟩),
(20, ⟨[o 30 0 3, i 3, i 0, i 0, i 0], 46, 0, none⟩),
(26, ⟨[i 0], 3, 0, none⟩),
(30, ⟨[i 1, i 0, i 0, i 0, i 5, .snil, i 12, i 1, i 0, i 0, i 1, f 26 0 1, i 15, i 0, i 1, i 0, i 0, .snil], 29, 6, none⟩),
(35, ⟨[i 0, i 0, i 0, i 0], 69, 2, none⟩),
(36, ⟨[o 42 0 1, i 3, i 0, i 0, i 0], 46, 0, none⟩),
(39, ⟨[i 0], 3, 0, none⟩),
(42, ⟨[i 12, i 0, i 0, i 0, i 2, f 39 0 1], 29, 6, none⟩),
(47, ⟨[i 0, i 0, i 0, i 0], 69, 2, none⟩),
(48, ⟨[o 54 0 1, i 3, i 0, i 0, i 0], 46, 0, none⟩),
(51, ⟨[i 0], 3, 0, none⟩),
(54, ⟨[i 12, i 0, i 0, i 0, i 3, f 51 0 1], 29, 6, none⟩),
(59, ⟨[i 0, i 0, i 0, i 0], 69, 2, none⟩),
(60, ⟨[o 66 0 1, i 3, i 0, i 0, i 0], 46, 0, none⟩),
(63, ⟨[i 0], 3, 0, none⟩),
(66, ⟨[i 12, i 0, i 0, i 0, i 4, f 63 0 1], 29, 6, none⟩),
(71, ⟨[i 0, i 0, i 0, i 0], 69, 2, none⟩),
(72, ⟨[o 78 0 1, i 3, i 0, i 0, i 0], 46, 0, none⟩),
(75, ⟨[i 0], 3, 0, none⟩),
(78, ⟨[i 12, i 0, i 0, i 0, i 5, f 75 0 1], 29, 6, none⟩),
(83, ⟨[i 0, i 0, i 0, i 0], 69, 2, none⟩),
(84, ⟨[o 90 0 1, i 3, i 0, i 0, i 0], 46, 0, none⟩),
(87, ⟨[i 0], 3, 0, none⟩),
(90, ⟨[i 12, i 0, i 0, i 0, i 6, f 87 0 1], 29, 6, none⟩),
(95, ⟨[i 0, i 0, i 0, i 0], 69, 2, none⟩),
(96, ⟨[o 102 0 1, i 3, i 0, i 0, i 0], 46, 0, none⟩),
(99, ⟨[i 0], 3, 0, none⟩),
(102, ⟨[i 12, i 0, i 0, i 0, i 7, f 99 0 1], 29, 6, none⟩),
(107, ⟨[i 0, i 0, i 0, i 0], 69, 2, none⟩),
(108, ⟨[o 114 0 1, i 3, i 0, i 0, i 0], 46, 0, none⟩),
(111, ⟨[i 0], 3, 0, none⟩),
(114, ⟨[i 12, i 0, i 0, i 0, i 8, f 111 0 1], 29, 6, none⟩),
(119, ⟨[i 0, i 0, i 0, i 0], 69, 2, none⟩),
(120, ⟨[o 126 0 1, i 3, i 0, i 0, i 0], 46, 0, none⟩),
(123, ⟨[i 0], 3, 0, none⟩),
(126, ⟨[i 12, i 0, i 0, i 0, i 9, f 123 0 1], 29, 6, none⟩),
(131, ⟨[i 0, i 0, i 0, i 0], 69, 2, none⟩),
(132, ⟨[.snil, i 3, i 0, i 0, i 0], 46, 0, none⟩),
(134, ⟨[i 0, o 19 0 2, f 20 0 1, i 2, o 35 0 2, f 36 0 1, i 2, o 47 0 2, f 48 0 1, i 2, o 59 0 2, f 60 0 1, i 2, o 71 0 2, f 72 0 1, i 2, o 83 0 2, f 84 0 1, i 2, o 95 0 2, f 96 0 1, i 2, o 107 0 2, f 108 0 1, i 2, o 119 0 2, f 120 0 1, i 2, o 131 0 2, f 132 0 1], 50, 3, none⟩),
(135, ⟨[o 251 0 10, o 255 0 10, .snil, .snil, .snil, i 30], 230, 0, none⟩),
(141, ⟨[i 0, i 1], 3, 1, none⟩),
(153, ⟨[i 3, i 4], 3, 1, none⟩),
(165, ⟨[i 6, i 7], 3, 1, none⟩),
(177, ⟨[i 9, i 10], 3, 1, none⟩),
(189, ⟨[i 12, i 13], 3, 1, none⟩),
(201, ⟨[i 15, i 16], 3, 1, none⟩),
(213, ⟨[i 18, i 19], 3, 1, none⟩),
(225, ⟨[i 21, i 22], 3, 1, none⟩),
(237, ⟨[i 24, i 25], 3, 1, none⟩),
(249, ⟨[i 27, i 28], 3, 1, none⟩),
(251, ⟨[o 141 0 2, o 153 0 2, o 165 0 2, o 177 0 2, o 189 0 2, o 201 0 2, o 213 0 2, o 225 0 2, o 237 0 2, o 249 0 2], 27, 1, none⟩),
(255, ⟨[i 2, i 5, i 8, i 11, i 14, i 17, i 20, i 23, i 26, i 29], 3, 1, none⟩),
(403, ⟨[o 463 0 30], 233, 0, none⟩),
(463, ⟨[i 0, i 1, i 2, i 3, i 4, i 5, i 6, i 7, i 8, i 9, i 10, i 11, i 12, i 13, i 14, i 15, i 16, i 17, i 18, i 19, i 20, i 21, i 22, i 23, i 24, i 25, i 26, i 27, i 28, i 29], 3, 1, none⟩),
(464, ⟨[.snil, .snil, .snil, .snil, .snil, .snil, .snil, .snil, .snil, .snil, .snil, .snil, .snil, .snil, .snil, .snil, .snil, .snil, .snil, .snil, .snil, .snil, .snil, .snil, .snil, .snil, .snil, .snil, .snil, .snil], 238, 0, none⟩),
(465, ⟨[o 741 0 1], 139, 0, none⟩),
(466, ⟨[], 0, 0, some (.map [(0, .agg [i 1, i 1], .c (.bool true)), (1, .agg [i 4, i 2], .c (.bool true)), (2, .agg [i 6, i 3], .c (.bool true)), (3, .agg [i 8, i 4], .c (.bool true)), (4, .agg [i 10, i 5], .c (.bool true)), (5, .agg [i 12, i 6], .c (.bool true)), (6, .agg [i 14, i 7], .c (.bool true)), (7, .agg [i 16, i 8], .c (.bool true)), (8, .agg [i 18, i 9], .c (.bool true))] 9)⟩),
(467, ⟨[], 0, 0, some (.map [] 0)⟩),
(468, ⟨[.snil, .snil, .map 467, i 0], 237, 0, none⟩),
(469, ⟨[.ptr 12 0, .ptr 135 0, .ptr 403 0, o 733 0 30, o 736 0 30, o 739 0 30, f 464 0 30, .ptr 465 0, .map 466, .ptr 468 0], 145, 0, none⟩),
e 470 139,
e 473 139,
e 476 139,
e 479 139,
e 482 139,
e 485 139,
e 488 139,
e 491 139,
e 494 139,
e 497 139,
e 500 139,
e 503 139,
e 506 139,
e 509 139,
e 512 139,
e 515 139,
e 518 139,
e 521 139,
e 524 139,
e 527 139,
e 530 139,
e 533 139,
e 536 139,
e 539 139,
e 542 139,
e 545 139,
e 548 139,
e 551 139,
e 554 139,
e 557 139,
e 560 139,
e 563 139,
e 566 139,
e 569 139,
e 572 139,
e 575 139,
e 578 139,
e 581 139,
e 584 139,
e 587 139,
e 590 139,
e 593 139,
e 596 139,
e 599 139,
e 602 139,
e 605 139,
e 608 139,
e 611 139,
e 614 139,
e 617 139,
e 620 139,
e 623 139,
e 626 139,
e 629 139,
e 632 139,
e 635 139,
e 638 139,
e 641 139,
e 644 139,
e 647 139,
e 650 139,
e 653 139,
e 656 139,
e 659 139,
e 662 139,
e 665 139,
e 668 139,
e 671 139,
e 674 139,
e 677 139,
e 680 139,
e 683 139,
e 686 139,
e 689 139,
e 692 139,
e 695 139,
e 698 139,
e 701 139,
e 704 139,
e 707 139,
e 710 139,
e 713 139,
e 716 139,
e 719 139,
e 722 139,
e 725 139,
e 728 139,
e 731 139,
(733, ⟨[.ptr 470 0, .ptr 479 0, .ptr 488 0, .ptr 497 0, .ptr 506 0, .ptr 515 0, .ptr 524 0, .ptr 533 0, .ptr 542 0, .ptr 551 0, .ptr 560 0, .ptr 569 0, .ptr 578 0, .ptr 587 0, .ptr 596 0, .ptr 605 0, .ptr 614 0, .ptr 623 0, .ptr 632 0, .ptr 641 0, .ptr 650 0, .ptr 659 0, .ptr 668 0, .ptr 677 0, .ptr 686 0, .ptr 695 0, .ptr 704 0, .ptr 713 0, .ptr 722 0, .ptr 731 0], 136, 1, none⟩),
e 734 139,
(736, ⟨[.ptr 473 0, .ptr 482 0, .ptr 491 0, .ptr 500 0, .ptr 509 0, .ptr 518 0, .ptr 527 0, .ptr 536 0, .ptr 545 0, .ptr 554 0, .ptr 563 0, .ptr 572 0, .ptr 581 0, .ptr 590 0, .ptr 599 0, .ptr 608 0, .ptr 617 0, .ptr 626 0, .ptr 635 0, .ptr 644 0, .ptr 653 0, .ptr 662 0, .ptr 671 0, .ptr 680 0, .ptr 689 0, .ptr 698 0, .ptr 707 0, .ptr 716 0, .ptr 725 0, .ptr 734 0], 136, 1, none⟩),
e 737 139,
(739, ⟨[.ptr 476 0, .ptr 485 0, .ptr 494 0, .ptr 503 0, .ptr 512 0, .ptr 521 0, .ptr 530 0, .ptr 539 0, .ptr 548 0, .ptr 557 0, .ptr 566 0, .ptr 575 0, .ptr 584 0, .ptr 593 0, .ptr 602 0, .ptr 611 0, .ptr 620 0, .ptr 629 0, .ptr 638 0, .ptr 647 0, .ptr 656 0, .ptr 665 0, .ptr 674 0, .ptr 683 0, .ptr 692 0, .ptr 701 0, .ptr 710 0, .ptr 719 0, .ptr 728 0, .ptr 737 0], 136, 1, none⟩),
(741, ⟨[.int .u64 (.ofNat 1023)], 224, 1, none⟩)]
private noncomputable abbrev l5 : Bls := [(10165, ⟨[], 0, 0, some (.map [(0, .agg [i 1, i 0, i 0, i 0, i 0], .c (o 15214 0 2)), (1, .agg [i 5, i 1, i 0, i 0, i 0], .c (o 15168 0 1)), (2, .agg [i 2, i 1, i 0, i 0, i 0], .c (o 15245 0 1)), (3, .agg [i 5, i 2, i 0, i 0, i 0], .c (o 15250 0 1)), (4, .agg [i 1, i 4, i 0, i 0, i 0], .c (o 15275 0 1)), (5, .agg [i 2, i 2, i 0, i 0, i 0], .c (o 15306 0 1)), (6, .agg [i 5, i 3, i 0, i 0, i 0], .c (o 15311 0 1)), (7, .agg [i 1, i 6, i 0, i 0, i 0], .c (o 15336 0 1)), (8, .agg [i 2, i 3, i 0, i 0, i 0], .c (o 15367 0 1)), (9, .agg [i 5, i 4, i 0, i 0, i 0], .c (o 15372 0 1)), (10, .agg [i 1, i 8, i 0, i 0, i 0], .c (o 15397 0 1)), (11, .agg [i 2, i 4, i 0, i 0, i 0], .c (o 15428 0 1)), (12, .agg [i 5, i 5, i 0, i 0, i 0], .c (o 15433 0 1)), (13, .agg [i 1, i 10, i 0, i 0, i 0], .c (o 15458 0 1)), (14, .agg [i 2, i 5, i 0, i 0, i 0], .c (o 15489 0 1)), (15, .agg [i 5, i 6, i 0, i 0, i 0], .c (o 15494 0 1)), (16, .agg [i 1, i 12, i 0, i 0, i 0], .c (o 15519 0 1)), (17, .agg [i 2, i 6, i 0, i 0, i 0], .c (o 15550 0 1)), (18, .agg [i 5, i 7, i 0, i 0, i 0], .c (o 15555 0 1)), (19, .agg [i 1, i 14, i 0, i 0, i 0], .c (o 15580 0 1)), (20, .agg [i 2, i 7, i 0, i 0, i 0], .c (o 15611 0 1)), (21, .agg [i 5, i 8, i 0, i 0, i 0], .c (o 15616 0 1)), (22, .agg [i 1, i 16, i 0, i 0, i 0], .c (o 15641 0 1)), (23, .agg [i 2, i 8, i 0, i 0, i 0], .c (o 15672 0 1)), (24, .agg [i 5, i 9, i 0, i 0, i 0], .c (o 15677 0 1)), (25, .agg [i 1, i 18, i 0, i 0, i 0], .c (o 15702 0 1)), (26, .agg [i 2, i 9, i 0, i 0, i 0], .c (o 15719 0 1))] 27)⟩),
(10166, ⟨[.map 10165, .md 1 (.ofNat 0) true], 155, 0, none⟩),
(15168, ⟨[i 1, i 1, i 0, i 0, i 0], 116, 5, none⟩),
(15214, ⟨[i 2, i 1, i 0, i 0, i 0, i 5, i 0, i 0, i 0, i 0], 116, 5, none⟩),
(15245, ⟨[i 2, i 2, i 0, i 0, i 0], 116, 5, none⟩),
(15250, ⟨[i 1, i 4, i 0, i 0, i 0], 116, 5, none⟩),
(15275, ⟨[i 5, i 1, i 0, i 0, i 0], 116, 5, none⟩),
(15306, ⟨[i 2, i 3, i 0, i 0, i 0], 116, 5, none⟩),
(15311, ⟨[i 1, i 6, i 0, i 0, i 0], 116, 5, none⟩),
(15336, ⟨[i 5, i 2, i 0, i 0, i 0], 116, 5, none⟩),
(15367, ⟨[i 2, i 4, i 0, i 0, i 0], 116, 5, none⟩),
(15372, ⟨[i 1, i 8, i 0, i 0, i 0], 116, 5, none⟩),
(15397, ⟨[i 5, i 3, i 0, i 0, i 0], 116, 5, none⟩),
(15428, ⟨[i 2, i 5, i 0, i 0, i 0], 116, 5, none⟩),
(15433, ⟨[i 1, i 10, i 0, i 0, i 0], 116, 5, none⟩),
(15458, ⟨[i 5, i 4, i 0, i 0, i 0], 116, 5, none⟩),
(15489, ⟨[i 2, i 6, i 0, i 0, i 0], 116, 5, none⟩),
(15494, ⟨[i 1, i 12, i 0, i 0, i 0], 116, 5, none⟩),
(15519, ⟨[i 5, i 5, i 0, i 0, i 0], 116, 5, none⟩),
(15550, ⟨[i 2, i 7, i 0, i 0, i 0], 116, 5, none⟩),
(15555, ⟨[i 1, i 14, i 0, i 0, i 0], 116, 5, none⟩),
(15580, ⟨[i 5, i 6, i 0, i 0, i 0], 116, 5, none⟩),
(15611, ⟨[i 2, i 8, i 0, i 0, i 0], 116, 5, none⟩),
(15616, ⟨[i 1, i 16, i 0, i 0, i 0], 116, 5, none⟩),
(15641, ⟨[i 5, i 7, i 0, i 0, i 0], 116, 5, none⟩),
(15672, ⟨[i 2, i 9, i 0, i 0, i 0], 116, 5, none⟩),
(15677, ⟨[i 1, i 18, i 0, i 0, i 0], 116, 5, none⟩),
(15702, ⟨[i 5, i 8, i 0, i 0, i 0], 116, 5, none⟩),
(15719, ⟨[i 5, i 9, i 0, i 0, i 0], 116, 5, none⟩)]
private noncomputable def m0 : MM := ⟨[48], l0, 135, [⟨48, 0, [.v (.c (.ptr 12 0))], .v (.c (.nili))⟩]⟩
private theorem m0_k : H0.tbl m0 = true := by kernel_rfl
private noncomputable def h1 : HK := H0.memo m0 m0_k
private noncomputable def m1 : MM := ⟨[155], l1, 300, [⟨155, 0, [.v (.c (.ptr 12 0)), .v (.c (i 0))], .tup [.agg [i 0, i 0, i 0], .c (.bool true)]⟩,
⟨155, 1, [.v (.c (.ptr 12 0)), .v (.c (i 1))], .tup [.agg [i 0, i 0, i 1], .c (.bool true)]⟩,
⟨155, 2, [.v (.c (.ptr 12 0)), .v (.c (i 2))], .tup [.agg [i 0, i 0, i 2], .c (.bool true)]⟩,
⟨155, 3, [.v (.c (.ptr 12 0)), .v (.c (i 3))], .tup [.agg [i 0, i 0, i 3], .c (.bool true)]⟩,
⟨155, 4, [.v (.c (.ptr 12 0)), .v (.c (i 4))], .tup [.agg [i 1, i 0, i 0], .c (.bool true)]⟩,
⟨155, 5, [.v (.c (.ptr 12 0)), .v (.c (i 5))], .tup [.agg [i 1, i 0, i 1], .c (.bool true)]⟩,
⟨155, 6, [.v (.c (.ptr 12 0)), .v (.c (i 6))], .tup [.agg [i 2, i 0, i 0], .c (.bool true)]⟩,
⟨155, 7, [.v (.c (.ptr 12 0)), .v (.c (i 7))], .tup [.agg [i 2, i 0, i 1], .c (.bool true)]⟩,
⟨155, 8, [.v (.c (.ptr 12 0)), .v (.c (i 8))], .tup [.agg [i 3, i 0, i 0], .c (.bool true)]⟩,
⟨155, 9, [.v (.c (.ptr 12 0)), .v (.c (i 9))], .tup [.agg [i 3, i 0, i 1], .c (.bool true)]⟩,
⟨155, 10, [.v (.c (.ptr 12 0)), .v (.c (i 10))], .tup [.agg [i 4, i 0, i 0], .c (.bool true)]⟩,
⟨155, 11, [.v (.c (.ptr 12 0)), .v (.c (i 11))], .tup [.agg [i 4, i 0, i 1], .c (.bool true)]⟩,
⟨155, 12, [.v (.c (.ptr 12 0)), .v (.c (i 12))], .tup [.agg [i 5, i 0, i 0], .c (.bool true)]⟩,
⟨155, 13, [.v (.c (.ptr 12 0)), .v (.c (i 13))], .tup [.agg [i 5, i 0, i 1], .c (.bool true)]⟩,
⟨155, 14, [.v (.c (.ptr 12 0)), .v (.c (i 14))], .tup [.agg [i 6, i 0, i 0], .c (.bool true)]⟩,
⟨155, 15, [.v (.c (.ptr 12 0)), .v (.c (i 15))], .tup [.agg [i 6, i 0, i 1], .c (.bool true)]⟩,
⟨155, 16, [.v (.c (.ptr 12 0)), .v (.c (i 16))], .tup [.agg [i 7, i 0, i 0], .c (.bool true)]⟩,
⟨155, 17, [.v (.c (.ptr 12 0)), .v (.c (i 17))], .tup [.agg [i 7, i 0, i 1], .c (.bool true)]⟩,
⟨155, 18, [.v (.c (.ptr 12 0)), .v (.c (i 18))], .tup [.agg [i 8, i 0, i 0], .c (.bool true)]⟩,
⟨155, 19, [.v (.c (.ptr 12 0)), .v (.c (i 19))], .tup [.agg [i 8, i 0, i 1], .c (.bool true)]⟩,
⟨155, 20, [.v (.c (.ptr 12 0)), .v (.c (i 20))], .tup [.agg [i 9, i 0, i 0], .c (.bool true)]⟩]⟩
private theorem m1_k : h1.tbl m1 = true := by kernel_rfl
private noncomputable def h2 : HK := h1.memo m1 m1_k
private noncomputable def s1 : RE := ⟨76, [.v (.c (.ptr 12 0))], 135, .v (.c (.ptr 135 0)), l2, 403⟩
private theorem s1_k : h2.srp l0 s1 = true := by kernel_rfl
private noncomputable def h3 : HK := h2.srep _ s1 s1_k
private noncomputable def s2 : RE := ⟨87, [.v (.c (.ptr 12 0))], 1011, .v (.c (o 1052 0 21)), [(1052, ⟨[i 0, i 0, i 0, i 0, i 0, i 1, i 0, i 0, i 2, i 0, i 0, i 3, i 1, i 0, i 0, i 1, i 0, i 1, i 2, i 0, i 0, i 2, i 0, i 1, i 3, i 0, i 0, i 3, i 0, i 1, i 4, i 0, i 0, i 4, i 0, i 1, i 5, i 0, i 0, i 5, i 0, i 1, i 6, i 0, i 0, i 6, i 0, i 1, i 7, i 0, i 0, i 7, i 0, i 1, i 8, i 0, i 0, i 8, i 0, i 1, i 9, i 0, i 0], 88, 3, none⟩)], 1053⟩
private theorem s2_k : h3.srp l0 s2 = true := by kernel_rfl
private noncomputable def h4 : HK := h3.srep _ s2 s2_k
private noncomputable def s3 : RE := ⟨49, [.v (.c (.ptr 12 0)), .v (.c (.snil))], 135, .v (.c (.ptr 469 0)), l3, 8208⟩
private theorem s3_k : h4.rep l0 s3 = true := by kernel_rfl
private noncomputable def h5 : HK := h4.repl _ s3 s3_k
private noncomputable def s4 : RE := ⟨151, [.v (.c (.ptr 12 0)), .v (.c (.ptr 469 0)), .v (.c (i 1))], 8432, .v (.c (.snil)), [], 8642⟩
private theorem s4_k : h5.srp l4 s4 = true := by kernel_rfl
private noncomputable def h6 : HK := h5.srep _ s4 s4_k
private noncomputable def s5 : RE := ⟨151, [.v (.c (.ptr 12 0)), .v (.c (.ptr 469 0)), .v (.c (i 4))], 8671, .v (.c (.snil)), [], 8872⟩
private theorem s5_k : h6.srp l4 s5 = true := by kernel_rfl
private noncomputable def h7 : HK := h6.srep _ s5 s5_k
private noncomputable def s6 : RE := ⟨151, [.v (.c (.ptr 12 0)), .v (.c (.ptr 469 0)), .v (.c (i 6))], 8888, .v (.c (.snil)), [], 9080⟩
private theorem s6_k : h7.srp l4 s6 = true := by kernel_rfl
private noncomputable def h8 : HK := h7.srep _ s6 s6_k
private noncomputable def s7 : RE := ⟨151, [.v (.c (.ptr 12 0)), .v (.c (.ptr 469 0)), .v (.c (i 8))], 9096, .v (.c (.snil)), [], 9279⟩
private theorem s7_k : h8.srp l4 s7 = true := by kernel_rfl
private noncomputable def h9 : HK := h8.srep _ s7 s7_k
private noncomputable def s8 : RE := ⟨151, [.v (.c (.ptr 12 0)), .v (.c (.ptr 469 0)), .v (.c (i 10))], 9295, .v (.c (.snil)), [], 9469⟩
private theorem s8_k : h9.srp l4 s8 = true := by kernel_rfl
private noncomputable def h10 : HK := h9.srep _ s8 s8_k
private noncomputable def s9 : RE := ⟨151, [.v (.c (.ptr 12 0)), .v (.c (.ptr 469 0)), .v (.c (i 12))], 9485, .v (.c (.snil)), [], 9650⟩
private theorem s9_k : h10.srp l4 s9 = true := by kernel_rfl
private noncomputable def h11 : HK := h10.srep _ s9 s9_k
private noncomputable def s10 : RE := ⟨151, [.v (.c (.ptr 12 0)), .v (.c (.ptr 469 0)), .v (.c (i 14))], 9666, .v (.c (.snil)), [], 9822⟩
private theorem s10_k : h11.srp l4 s10 = true := by kernel_rfl
private noncomputable def h12 : HK := h11.srep _ s10 s10_k
private noncomputable def s11 : RE := ⟨151, [.v (.c (.ptr 12 0)), .v (.c (.ptr 469 0)), .v (.c (i 16))], 9838, .v (.c (.snil)), [], 9985⟩
private theorem s11_k : h12.srp l4 s11 = true := by kernel_rfl
private noncomputable def h13 : HK := h12.srep _ s11 s11_k
private noncomputable def s12 : RE := ⟨151, [.v (.c (.ptr 12 0)), .v (.c (.ptr 469 0)), .v (.c (i 18))], 10001, .v (.c (.snil)), [], 10139⟩
private theorem s12_k : h13.srp l4 s12 = true := by kernel_rfl
private noncomputable def h14 : HK := h13.srep _ s12 s12_k
private noncomputable def s13 : RE := ⟨85, [.v (.c (.ptr 12 0)), .v (.c (.ptr 469 0)), .v (.c (i 0))], 10168, .v (.c (.snil)), [], 10588⟩
private theorem s13_k : h14.srp l4 s13 = true := by kernel_rfl
private noncomputable def h15 : HK := h14.srep _ s13 s13_k
private noncomputable def s14 : RE := ⟨86, [.v (.c (.ptr 12 0)), .v (.c (.ptr 469 0)), .v (.c (i 0))], 10590, .v (.c (.snil)), [], 10800⟩
private theorem s14_k : h15.srp l4 s14 = true := by kernel_rfl
private noncomputable def h16 : HK := h15.srep _ s14 s14_k
private noncomputable def s15 : RE := ⟨85, [.v (.c (.ptr 12 0)), .v (.c (.ptr 469 0)), .v (.c (i 1))], 10802, .v (.c (.snil)), [], 11188⟩
private theorem s15_k : h16.srp l4 s15 = true := by kernel_rfl
private noncomputable def h17 : HK := h16.srep _ s15 s15_k
private noncomputable def s16 : RE := ⟨86, [.v (.c (.ptr 12 0)), .v (.c (.ptr 469 0)), .v (.c (i 1))], 11190, .v (.c (.snil)), [], 11383⟩
private theorem s16_k : h17.srp l4 s16 = true := by kernel_rfl
private noncomputable def h18 : HK := h17.srep _ s16 s16_k
private noncomputable def s17 : RE := ⟨85, [.v (.c (.ptr 12 0)), .v (.c (.ptr 469 0)), .v (.c (i 2))], 11385, .v (.c (.snil)), [], 11753⟩
private theorem s17_k : h18.srp l4 s17 = true := by kernel_rfl
private noncomputable def h19 : HK := h18.srep _ s17 s17_k
private noncomputable def s18 : RE := ⟨86, [.v (.c (.ptr 12 0)), .v (.c (.ptr 469 0)), .v (.c (i 2))], 11755, .v (.c (.snil)), [], 11939⟩
private theorem s18_k : h19.srp l4 s18 = true := by kernel_rfl
private noncomputable def h20 : HK := h19.srep _ s18 s18_k
private noncomputable def s19 : RE := ⟨85, [.v (.c (.ptr 12 0)), .v (.c (.ptr 469 0)), .v (.c (i 3))], 11941, .v (.c (.snil)), [], 12291⟩
private theorem s19_k : h20.srp l4 s19 = true := by kernel_rfl
private noncomputable def h21 : HK := h20.srep _ s19 s19_k
private noncomputable def s20 : RE := ⟨86, [.v (.c (.ptr 12 0)), .v (.c (.ptr 469 0)), .v (.c (i 3))], 12293, .v (.c (.snil)), [], 12468⟩
private theorem s20_k : h21.srp l4 s20 = true := by kernel_rfl
private noncomputable def h22 : HK := h21.srep _ s20 s20_k
private noncomputable def s21 : RE := ⟨85, [.v (.c (.ptr 12 0)), .v (.c (.ptr 469 0)), .v (.c (i 4))], 12470, .v (.c (.snil)), [], 12802⟩
private theorem s21_k : h22.srp l4 s21 = true := by kernel_rfl
private noncomputable def h23 : HK := h22.srep _ s21 s21_k
private noncomputable def s22 : RE := ⟨86, [.v (.c (.ptr 12 0)), .v (.c (.ptr 469 0)), .v (.c (i 4))], 12804, .v (.c (.snil)), [], 12970⟩
private theorem s22_k : h23.srp l4 s22 = true := by kernel_rfl
private noncomputable def h24 : HK := h23.srep _ s22 s22_k
private noncomputable def s23 : RE := ⟨85, [.v (.c (.ptr 12 0)), .v (.c (.ptr 469 0)), .v (.c (i 5))], 12972, .v (.c (.snil)), [], 13286⟩
private theorem s23_k : h24.srp l4 s23 = true := by kernel_rfl
private noncomputable def h25 : HK := h24.srep _ s23 s23_k
private noncomputable def s24 : RE := ⟨86, [.v (.c (.ptr 12 0)), .v (.c (.ptr 469 0)), .v (.c (i 5))], 13288, .v (.c (.snil)), [], 13445⟩
private theorem s24_k : h25.srp l4 s24 = true := by kernel_rfl
private noncomputable def h26 : HK := h25.srep _ s24 s24_k
private noncomputable def s25 : RE := ⟨85, [.v (.c (.ptr 12 0)), .v (.c (.ptr 469 0)), .v (.c (i 6))], 13447, .v (.c (.snil)), [], 13743⟩
private theorem s25_k : h26.srp l4 s25 = true := by kernel_rfl
private noncomputable def h27 : HK := h26.srep _ s25 s25_k
private noncomputable def s26 : RE := ⟨86, [.v (.c (.ptr 12 0)), .v (.c (.ptr 469 0)), .v (.c (i 6))], 13745, .v (.c (.snil)), [], 13893⟩
private theorem s26_k : h27.srp l4 s26 = true := by kernel_rfl
private noncomputable def h28 : HK := h27.srep _ s26 s26_k
private noncomputable def s27 : RE := ⟨85, [.v (.c (.ptr 12 0)), .v (.c (.ptr 469 0)), .v (.c (i 7))], 13895, .v (.c (.snil)), [], 14173⟩
private theorem s27_k : h28.srp l4 s27 = true := by kernel_rfl
private noncomputable def h29 : HK := h28.srep _ s27 s27_k
private noncomputable def s28 : RE := ⟨86, [.v (.c (.ptr 12 0)), .v (.c (.ptr 469 0)), .v (.c (i 7))], 14175, .v (.c (.snil)), [], 14314⟩
private theorem s28_k : h29.srp l4 s28 = true := by kernel_rfl
private noncomputable def h30 : HK := h29.srep _ s28 s28_k
private noncomputable def s29 : RE := ⟨85, [.v (.c (.ptr 12 0)), .v (.c (.ptr 469 0)), .v (.c (i 8))], 14316, .v (.c (.snil)), [], 14576⟩
private theorem s29_k : h30.srp l4 s29 = true := by kernel_rfl
private noncomputable def h31 : HK := h30.srep _ s29 s29_k
private noncomputable def s30 : RE := ⟨86, [.v (.c (.ptr 12 0)), .v (.c (.ptr 469 0)), .v (.c (i 8))], 14578, .v (.c (.snil)), [], 14708⟩
private theorem s30_k : h31.srp l4 s30 = true := by kernel_rfl
private noncomputable def h32 : HK := h31.srep _ s30 s30_k
private noncomputable def s31 : RE := ⟨85, [.v (.c (.ptr 12 0)), .v (.c (.ptr 469 0)), .v (.c (i 9))], 14710, .v (.c (.snil)), [], 14952⟩
private theorem s31_k : h32.srp l4 s31 = true := by kernel_rfl
private noncomputable def h33 : HK := h32.srep _ s31 s31_k
private noncomputable def s32 : RE := ⟨86, [.v (.c (.ptr 12 0)), .v (.c (.ptr 469 0)), .v (.c (i 9))], 14954, .v (.c (.snil)), [], 15075⟩
private theorem s32_k : h33.srp l4 s32 = true := by kernel_rfl
private noncomputable def h34 : HK := h33.srep _ s32 s32_k
private noncomputable def s33 : RE := ⟨50, [.v (.c (.ptr 12 0)), .v (.c (.ptr 469 0))], 8208, .v (.c (.ptr 10166 0)), l5, 15721⟩
private theorem s33_k : h34.rep l4 s33 = true := by kernel_rfl
private noncomputable def h35 : HK := h34.repl _ s33 s33_k
theorem TopTaintCalls_8_t_run : isBool true (runW h35.K 4 [mi 10 8, ab true] s0) = true := by kernel_rfl
theorem TopTaintCalls_8_t_law {args : Array Value} (ha : VAs (fun _ => none) [mi 10 8, ab true] args.toList) (w : World) (hT : Tab w) :
    Calls Tryz.prog 4 args w fun e w' => Below w.heap.size w w' ∧ e = .returned (.bool true) := h35.law TopTaintCalls_8_t_run ha w hT
end Go.Proofs.YteajpblmbmncdaaGreatDoor
