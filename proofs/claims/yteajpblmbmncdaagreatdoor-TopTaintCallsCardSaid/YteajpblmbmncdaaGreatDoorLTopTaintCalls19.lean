/- Tables of calls, and a run that uses them. -/
import Derived.Test.YteajpblmbmncdaaGreatDoorLn
namespace Go.Proofs.YteajpblmbmncdaaGreatDoor
open Go Go.RowKit Ev
set_option maxRecDepth 100000
set_option linter.unusedVariables false
private noncomputable abbrev i (n : Nat) : CV := .int .i64 (.ofNat n)
private noncomputable abbrev o (b a n : Nat) : CV := .slice b a n (.opn 0)
private noncomputable abbrev f (b a n : Nat) : CV := .slice b a n (.fix n)
private noncomputable abbrev e (k t : Nat) : Nat × BK := (k, ⟨[.snil], t, 0, none⟩)
private noncomputable abbrev l0 : Bls := [(1, ⟨[i 0, i 0, i 0, i 0, i 1, i 0], 69, 0, none⟩),
(2, ⟨[f 1 0 3], 47, 0, none⟩),
(4, ⟨[i 1, i 0], 69, 0, none⟩),
(5, ⟨[i 0, i 0], 69, 0, none⟩),
(7, ⟨[i 1, i 0], 69, 0, none⟩),
(9, ⟨[.snil, i 0, i 0, f 4 0 1, i 0, i 0, f 5 0 1, i 0, i 0, f 7 0 1, i 1, i 0], 72, 0, none⟩),
(10, ⟨[i 0], 3, 0, none⟩),
(11, ⟨[f 10 0 1], 74, 0, none⟩),
(12, ⟨[f 2 0 1, f 9 0 4, f 11 0 1, .snil, o 145 0 11, i 0], 57, 0, none⟩),
(19, ⟨[i 0, i 0, i 0, i 0], 69, 2, none⟩),
(20, ⟨[o 29 0 3, i 3, i 0, i 0, i 0], 46, 0, none⟩),
(25, ⟨[i 0], 3, 0, none⟩),
(29, ⟨[i 3, i 0, i 0, i 0, i 0, .snil, i 12, i 1, i 0, i 0, i 1, f 25 0 1, i 15, i 0, i 1, i 0, i 0, .snil], 29, 6, none⟩),
(34, ⟨[i 0, i 0, i 0, i 0], 69, 2, none⟩),
(35, ⟨[o 41 0 1, i 3, i 0, i 0, i 0], 46, 0, none⟩),
(38, ⟨[i 0], 3, 0, none⟩),
(41, ⟨[i 12, i 0, i 0, i 0, i 2, f 38 0 1], 29, 6, none⟩),
(46, ⟨[i 0, i 0, i 0, i 0], 69, 2, none⟩),
(47, ⟨[o 53 0 1, i 3, i 0, i 0, i 0], 46, 0, none⟩),
(50, ⟨[i 0], 3, 0, none⟩),
(53, ⟨[i 12, i 0, i 0, i 0, i 3, f 50 0 1], 29, 6, none⟩),
(58, ⟨[i 0, i 0, i 0, i 0], 69, 2, none⟩),
(59, ⟨[o 65 0 1, i 3, i 0, i 0, i 0], 46, 0, none⟩),
(62, ⟨[i 0], 3, 0, none⟩),
(65, ⟨[i 12, i 0, i 0, i 0, i 4, f 62 0 1], 29, 6, none⟩),
(70, ⟨[i 0, i 0, i 0, i 0], 69, 2, none⟩),
(71, ⟨[o 77 0 1, i 3, i 0, i 0, i 0], 46, 0, none⟩),
(74, ⟨[i 0], 3, 0, none⟩),
(77, ⟨[i 12, i 0, i 0, i 0, i 5, f 74 0 1], 29, 6, none⟩),
(82, ⟨[i 0, i 0, i 0, i 0], 69, 2, none⟩),
(83, ⟨[o 89 0 1, i 3, i 0, i 0, i 0], 46, 0, none⟩),
(86, ⟨[i 0], 3, 0, none⟩),
(89, ⟨[i 12, i 0, i 0, i 0, i 6, f 86 0 1], 29, 6, none⟩),
(94, ⟨[i 0, i 0, i 0, i 0], 69, 2, none⟩),
(95, ⟨[o 101 0 1, i 3, i 0, i 0, i 0], 46, 0, none⟩),
(98, ⟨[i 0], 3, 0, none⟩),
(101, ⟨[i 12, i 0, i 0, i 0, i 7, f 98 0 1], 29, 6, none⟩),
(106, ⟨[i 0, i 0, i 0, i 0], 69, 2, none⟩),
(107, ⟨[o 113 0 1, i 3, i 0, i 0, i 0], 46, 0, none⟩),
(110, ⟨[i 0], 3, 0, none⟩),
(113, ⟨[i 12, i 0, i 0, i 0, i 8, f 110 0 1], 29, 6, none⟩),
(118, ⟨[i 0, i 0, i 0, i 0], 69, 2, none⟩),
(119, ⟨[o 125 0 1, i 3, i 0, i 0, i 0], 46, 0, none⟩),
(122, ⟨[i 0], 3, 0, none⟩),
(125, ⟨[i 12, i 0, i 0, i 0, i 9, f 122 0 1], 29, 6, none⟩),
(130, ⟨[i 0, i 0, i 0, i 0], 69, 2, none⟩),
(131, ⟨[o 137 0 1, i 3, i 0, i 0, i 0], 46, 0, none⟩),
(134, ⟨[i 0], 3, 0, none⟩),
(137, ⟨[i 12, i 0, i 0, i 0, i 10, f 134 0 1], 29, 6, none⟩),
(142, ⟨[i 0, i 0, i 0, i 0], 69, 2, none⟩),
(143, ⟨[.snil, i 3, i 0, i 0, i 0], 46, 0, none⟩),
(145, ⟨[i 0, o 19 0 2, f 20 0 1, i 2, o 34 0 2, f 35 0 1, i 2, o 46 0 2, f 47 0 1, i 2, o 58 0 2, f 59 0 1, i 2, o 70 0 2, f 71 0 1, i 2, o 82 0 2, f 83 0 1, i 2, o 94 0 2, f 95 0 1, i 2, o 106 0 2, f 107 0 1, i 2, o 118 0 2, f 119 0 1, i 2, o 130 0 2, f 131 0 1, i 2, o 142 0 2, f 143 0 1], 50, 3, none⟩)]
private noncomputable abbrev l1 : Bls := [(12, ⟨[f 2 0 1, f 9 0 4, f 11 0 1, .snil, o 145 0 11, i 0], 57, 0, none⟩),
(20, ⟨[o 29 0 3, i 3, i 0, i 0, i 0], 46, 0, none⟩),
(35, ⟨[o 41 0 1, i 3, i 0, i 0, i 0], 46, 0, none⟩),
(47, ⟨[o 53 0 1, i 3, i 0, i 0, i 0], 46, 0, none⟩),
(59, ⟨[o 65 0 1, i 3, i 0, i 0, i 0], 46, 0, none⟩),
(71, ⟨[o 77 0 1, i 3, i 0, i 0, i 0], 46, 0, none⟩),
(83, ⟨[o 89 0 1, i 3, i 0, i 0, i 0], 46, 0, none⟩),
(95, ⟨[o 101 0 1, i 3, i 0, i 0, i 0], 46, 0, none⟩),
(107, ⟨[o 113 0 1, i 3, i 0, i 0, i 0], 46, 0, none⟩),
(119, ⟨[o 125 0 1, i 3, i 0, i 0, i 0], 46, 0, none⟩),
(131, ⟨[o 137 0 1, i 3, i 0, i 0, i 0], 46, 0, none⟩),
(143, ⟨[.snil, i 3, i 0, i 0, i 0], 46, 0, none⟩),
(145, ⟨[i 0, o 19 0 2, f 20 0 1, i 2, o 34 0 2, f 35 0 1, i 2, o 46 0 2, f 47 0 1, i 2, o 58 0 2, f 59 0 1, i 2, o 70 0 2, f 71 0 1, i 2, o 82 0 2, f 83 0 1, i 2, o 94 0 2, f 95 0 1, i 2, o 106 0 2, f 107 0 1, i 2, o 118 0 2, f 119 0 1, i 2, o 130 0 2, f 131 0 1, i 2, o 142 0 2, f 143 0 1], 50, 3, none⟩)]
private noncomputable abbrev l2 : Bls := [(147, ⟨[o 275 0 11, o 279 0 11, .snil, .snil, .snil, i 33], 230, 0, none⟩),
(153, ⟨[i 0, i 1], 3, 1, none⟩),
(165, ⟨[i 3, i 4], 3, 1, none⟩),
(177, ⟨[i 6, i 7], 3, 1, none⟩),
(189, ⟨[i 9, i 10], 3, 1, none⟩),
(201, ⟨[i 12, i 13], 3, 1, none⟩),
(213, ⟨[i 15, i 16], 3, 1, none⟩),
(225, ⟨[i 18, i 19], 3, 1, none⟩),
(237, ⟨[i 21, i 22], 3, 1, none⟩),
(249, ⟨[i 24, i 25], 3, 1, none⟩),
(261, ⟨[i 27, i 28], 3, 1, none⟩),
(273, ⟨[i 30, i 31], 3, 1, none⟩),
(275, ⟨[o 153 0 2, o 165 0 2, o 177 0 2, o 189 0 2, o 201 0 2, o 213 0 2, o 225 0 2, o 237 0 2, o 249 0 2, o 261 0 2, o 273 0 2], 27, 1, none⟩),
(279, ⟨[i 2, i 5, i 8, i 11, i 14, i 17, i 20, i 23, i 26, i 29, i 32], 3, 1, none⟩)]
private noncomputable abbrev l3 : Bls := [(147, ⟨[o 275 0 11, o 279 0 11, .snil, .snil, .snil, i 33], 230, 0, none⟩),
(153, ⟨[i 0, i 1], 3, 1, none⟩),
(165, ⟨[i 3, i 4], 3, 1, none⟩),
(177, ⟨[i 6, i 7], 3, 1, none⟩),
(189, ⟨[i 9, i 10], 3, 1, none⟩),
(201, ⟨[i 12, i 13], 3, 1, none⟩),
(213, ⟨[i 15, i 16], 3, 1, none⟩),
(225, ⟨[i 18, i 19], 3, 1, none⟩),
(237, ⟨[i 21, i 22], 3, 1, none⟩),
(249, ⟨[i 24, i 25], 3, 1, none⟩),
(261, ⟨[i 27, i 28], 3, 1, none⟩),
(273, ⟨[i 30, i 31], 3, 1, none⟩),
(275, ⟨[o 153 0 2, o 165 0 2, o 177 0 2, o 189 0 2, o 201 0 2, o 213 0 2, o 225 0 2, o 237 0 2, o 249 0 2, o 261 0 2, o 273 0 2], 27, 1, none⟩),
(279, ⟨[i 2, i 5, i 8, i 11, i 14, i 17, i 20, i 23, i 26, i 29, i 32], 3, 1, none⟩),
(441, ⟨[o 507 0 33], 233, 0, none⟩),
(507, ⟨[i 0, i 1, i 2, i 3, i 4, i 5, i 6, i 7, i 8, i 9, i 10, i 11, i 12, i 13, i 14, i 15, i 16, i 17, i 18, i 19, i 20, i 21, i 22, i 23, i 24, i 25, i 26, i 27, i 28, i 29, i 30, i 31, i 32], 3, 1, none⟩),
(508, ⟨[.snil, .snil, .snil, .snil, .snil, .snil, .snil, .snil, .snil, .snil, .snil, .snil, .snil, .snil, .snil, .snil, .snil, .snil, .snil, .snil, .snil, .snil, .snil, .snil, .snil, .snil, .snil, .snil, .snil, .snil, .snil, .snil, .snil], 238, 0, none⟩),
(509, ⟨[o 812 0 1], 139, 0, none⟩),
(510, ⟨[], 0, 0, some (.map [(0, .agg [i 1, i 1], .c (.bool true)), (1, .agg [i 4, i 2], .c (.bool true)), (2, .agg [i 6, i 3], .c (.bool true)), (3, .agg [i 8, i 4], .c (.bool true)), (4, .agg [i 10, i 5], .c (.bool true)), (5, .agg [i 12, i 6], .c (.bool true)), (6, .agg [i 14, i 7], .c (.bool true)), (7, .agg [i 16, i 8], .c (.bool true)), (8, .agg [i 18, i 9], .c (.bool true)), (9, .agg [i 20, i 10], .c (.bool true))] 10)⟩),
(511, ⟨[], 0, 0, some (.map [] 0)⟩),
(512, ⟨[.snil, .snil, .map 511, i 0], 237, 0, none⟩),
(513, ⟨[.ptr 12 0, .ptr 147 0, .ptr 441 0, o 804 0 33, o 807 0 33, o 810 0 33, f 508 0 33, .ptr 509 0, .map 510, .ptr 512 0], 145, 0, none⟩),
e 514 139,
e 517 139,
e 520 139,
e 523 139,
e 526 139,
e 529 139,
e 532 139,
e 535 139,
e 538 139,
e 541 139,
e 544 139,
e 547 139,
e 550 139,
e 553 139,
e 556 139,
e 559 139,
e 562 139,
e 565 139,
e 568 139,
e 571 139,
e 574 139,
e 577 139,
e 580 139,
e 583 139,
e 586 139,
e 589 139,
e 592 139,
e 595 139,
e 598 139,
e 601 139,
e 604 139,
e 607 139,
e 610 139,
e 613 139,
e 616 139,
e 619 139,
e 622 139,
e 625 139,
e 628 139,
e 631 139,
e 634 139,
e 637 139,
e 640 139,
e 643 139,
e 646 139,
e 649 139,
e 652 139,
e 655 139,
e 658 139,
e 661 139,
e 664 139,
e 667 139,
e 670 139,
e 673 139,
e 676 139,
e 679 139,
e 682 139,
e 685 139,
e 688 139,
e 691 139,
e 694 139,
e 697 139,
e 700 139,
e 703 139,
e 706 139,
e 709 139,
e 712 139,
e 715 139,
e 718 139,
e 721 139,
e 724 139,
e 727 139,
e 730 139,
e 733 139,
e 736 139,
e 739 139,
e 742 139,
e 745 139,
e 748 139,
e 751 139,
e 754 139,
e 757 139,
e 760 139,
e 763 139,
e 766 139,
e 769 139,
e 772 139,
e 775 139,
e 778 139,
e 781 139,
e 784 139,
e 787 139,
e 790 139,
e 793 139,
e 796 139,
e 799 139,
e 802 139,
(804, ⟨[.ptr 514 0, .ptr 523 0, .ptr 532 0, .ptr 541 0, .ptr 550 0, .ptr 559 0, .ptr 568 0, .ptr 577 0, .ptr 586 0, .ptr 595 0, .ptr 604 0, .ptr 613 0, .ptr 622 0, .ptr 631 0, .ptr 640 0, .ptr 649 0, .ptr 658 0, .ptr 667 0, .ptr 676 0, .ptr 685 0, .ptr 694 0, .ptr 703 0, .ptr 712 0, .ptr 721 0, .ptr 730 0, .ptr 739 0, .ptr 748 0, .ptr 757 0, .ptr 766 0, .ptr 775 0, .ptr 784 0, .ptr 793 0, .ptr 802 0], 136, 1, none⟩),
e 805 139,
(807, ⟨[.ptr 517 0, .ptr 526 0, .ptr 535 0, .ptr 544 0, .ptr 553 0, .ptr 562 0, .ptr 571 0, .ptr 580 0, .ptr 589 0, .ptr 598 0, .ptr 607 0, .ptr 616 0, .ptr 625 0, .ptr 634 0, .ptr 643 0, .ptr 652 0, .ptr 661 0, .ptr 670 0, .ptr 679 0, .ptr 688 0, .ptr 697 0, .ptr 706 0, .ptr 715 0, .ptr 724 0, .ptr 733 0, .ptr 742 0, .ptr 751 0, .ptr 760 0, .ptr 769 0, .ptr 778 0, .ptr 787 0, .ptr 796 0, .ptr 805 0], 136, 1, none⟩),
e 808 139,
(810, ⟨[.ptr 520 0, .ptr 529 0, .ptr 538 0, .ptr 547 0, .ptr 556 0, .ptr 565 0, .ptr 574 0, .ptr 583 0, .ptr 592 0, .ptr 601 0, .ptr 610 0, .ptr 619 0, .ptr 628 0, .ptr 637 0, .ptr 646 0, .ptr 655 0, .ptr 664 0, .ptr 673 0, .ptr 682 0, .ptr 691 0, .ptr 700 0, .ptr 709 0, .ptr 718 0, .ptr 727 0, .ptr 736 0, .ptr 745 0, .ptr 754 0, .ptr 763 0, .ptr 772 0, .ptr 781 0, .ptr 790 0, .ptr 799 0, .ptr 808 0], 136, 1, none⟩),
(812, ⟨[.int .u64 (.ofNat 2047)], 224, 1, none⟩)]
private noncomputable abbrev l4 : Bls := [(1, ⟨[i 0, i 0, i 0, i 0, i 1, i 0], 69, 0, none⟩),
(2, ⟨[f 1 0 3], 47, 0, none⟩),
(4, ⟨[i 1, i 0], 69, 0, none⟩),
(5, ⟨[i 0, i 0], 69, 0, none⟩),
(7, ⟨[i 1, i 0], 69, 0, none⟩),
(9, ⟨[.snil, i 0, i 0, f 4 0 1, i 0, i 0, f 5 0 1, i 0, i 0, f 7 0 1, i 1, i 0], 72, 0, none⟩),
(10, ⟨[i 0], 3, 0, none⟩),
(11, ⟨[f 10 0 1], 74, 0, none⟩),
(12, ⟨[f 2 0 1, f 9 0 4, f 11 0 1, .snil, o 145 0 11, i 0], 57, 0, none⟩),
(19, ⟨[i 0, i 0, i 0, i 0], 69, 2, none⟩),
(20, ⟨[o 29 0 3, i 3, i 0, i 0, i 0], 46, 0, none⟩),
(25, ⟨[i 0], 3, 0, none⟩),
(29, ⟨[i 3, i 0, i 0, i 0, i 0, .snil, i 12, i 1, i 0, i 0, i 1, f 25 0 1, i 15, i 0, i 1, i 0, i 0, .snil], 29, 6, none⟩),
(34, ⟨[i 0, i 0, i 0, i 0], 69, 2, none⟩),
(35, ⟨[o 41 0 1, i 3, i 0, i 0, i 0], 46, 0, none⟩),
(38, ⟨[i 0], 3, 0, none⟩),
(41, ⟨[i 12, i 0, i 0, i 0, i 2, f 38 0 1], 29, 6, none⟩),
(46, ⟨[i 0, i 0, i 0, i 0], 69, 2, none⟩),
(47, ⟨[o 53 0 1, i 3, i 0, i 0, i 0], 46, 0, none⟩),
(50, ⟨[i 0], 3, 0, none⟩),
(53, ⟨[i 12, i 0, i 0, i 0, i 3, f 50 0 1], 29, 6, none⟩),
(58, ⟨[i 0, i 0, i 0, i 0], 69, 2, none⟩),
(59, ⟨[o 65 0 1, i 3, i 0, i 0, i 0], 46, 0, none⟩),
(62, ⟨[i 0], 3, 0, none⟩),
(65, ⟨[i 12, i 0, i 0, i 0, i 4, f 62 0 1], 29, 6, none⟩),
(70, ⟨[i 0, i 0, i 0, i 0], 69, 2, none⟩),
(71, ⟨[o 77 0 1, i 3, i 0, i 0, i 0], 46, 0, none⟩),
(74, ⟨[i 0], 3, 0, none⟩),
(77, ⟨[i 12, i 0, i 0, i 0, i 5, f 74 0 1], 29, 6, none⟩),
(82, ⟨[i 0, i 0, i 0, i 0], 69, 2, none⟩),
(83, ⟨[o 89 0 1, i 3, i 0, i 0, i 0], 46, 0, none⟩),
(86, ⟨[i 0], 3, 0, none⟩),
(89, ⟨[i 12, i 0, i 0, i 0, i 6, f 86 0 1], 29, 6, none⟩),
(94, ⟨[i 0, i 0, i 0, i 0], 69, 2, none⟩),
(95, ⟨[o 101 0 1, i 3, i 0, i 0, i 0], 46, 0, none⟩),
(98, ⟨[i 0], 3, 0, none⟩),
(101, ⟨[i 12, i 0, i 0, i 0, i 7, f 98 0 1], 29, 6, none⟩),
(106, ⟨[i 0, i 0, i 0, i 0], 69, 2, none⟩),
(107, ⟨[o 113 0 1, i 3, i 0, i 0, i 0], 46, 0, none⟩),
(110, ⟨[i 0], 3, 0, none⟩),
(113, ⟨[i 12, i 0, i 0, i 0, i 8, f 110 0 1], 29, 6, none⟩),
(118, ⟨[i 0, i 0, i 0, i 0], 69, 2, none⟩),
(119, ⟨[o 125 0 1, i 3, i 0, i 0, i 0], 46, 0, none⟩),
(122, ⟨[i 0], 3, 0, none⟩),
(125, ⟨[i 12, i 0, i 0, i 0, i 9, f 122 0 1], 29, 6, none⟩),
(130, ⟨[i 0, i 0, i 0, i 0], 69, 2, none⟩),
(131, ⟨[o 137 0 1, i 3, i 0, i 0, i 0], 46, 0, none⟩),
(134, ⟨[i 0], 3, 0, none⟩),
(137, ⟨[i 12, i 0, i 0, i 0, i 10, f 134 0 1], 29, 6, none⟩),
(142, ⟨[i 0, i 0, i 0, i 0], 69, 2, none⟩),
(143, ⟨[.snil, i 3, i 0, i 0, i 0], 46, 0, none⟩),
(145, ⟨[i 0, o 19 0 2, f 20 0 1, i 2, o 34 0 2, f 35 0 1, i 2, o 46 0 2, f 47 0 1, i 2, o 58 0 2, f 59 0 1, i 2, o 70 0 2, f 71 0 1, i 2, o 82 0 2, f 83 0 1, i 2, o 94 0 2, f 95 0 1, i 2, o 106 0 2, f 107 0 1, i 2, o 118 0 2, f 119 0 1, i 2, o 130 0 2, f 131 0 1, i 2, o 142 0 2, f 143 0 1], 50, 3, none⟩),
(147, ⟨[o 275 0 11, o 279 0 11, .snil, .snil, .snil, i 33], 230, 0, none⟩),
(153, ⟨[i 0, i 1], 3, 1, none⟩),
(165, ⟨[i 3, i 4], 3, 1, none⟩),
(177, ⟨[i 6, i 7], 3, 1, none⟩),
(189, ⟨[i 9, i 10], 3, 1, none⟩),
(201, ⟨[i 12, i 13], 3, 1, none⟩),
(213, ⟨[i 15, i 16], 3, 1, none⟩),
(225, ⟨[i 18, i 19], 3, 1, none⟩),
(237, ⟨[i 21, i 22], 3, 1, none⟩),
(249, ⟨[i 24, i 25], 3, 1, none⟩),
(261, ⟨[i 27, i 28], 3, 1, none⟩),
(273, ⟨[i 30, i 31], 3, 1, none⟩),
(275, ⟨[o 153 0 2, o 165 0 2, o 177 0 2, o 189 0 2, o 201 0 2, o 213 0 2, o 225 0 2, o 237 0 2, o 249 0 2, o 261 0 2, o 273 0 2], 27, 1, none⟩),
(279, ⟨[i 2, i 5, i 8, i 11, i 14, i 17, i 20, i 23, i 26, i 29, i 32], 3, 1, none⟩),
(441, ⟨[o 507 0 33], 233, 0, none⟩),
(507, ⟨[i 0, i 1, i 2, i 3, i 4, i 5, i 6, i 7, i 8, i 9, i 10, i 11, i 12, i 13, i 14, i 15, i 16, i 17, i 18, i 19, i 20, i 21, i 22, i 23, i 24, i 25, i 26, i 27, i 28, i 29, i 30, i 31, i 32], 3, 1, none⟩),
(508, ⟨[.snil, .snil, .snil, .snil, .snil, .snil, .snil, .snil, .snil, .snil, .snil, .snil, .snil, .snil, .snil, .snil, .snil, .snil, .snil, .snil, .snil, .snil, .snil, .snil, .snil, .snil, .snil, .snil, .snil, .snil, .snil, .snil, .snil], 238, 0, none⟩),
(509, ⟨[o 812 0 1], 139, 0, none⟩),
(510, ⟨[], 0, 0, some (.map [(0, .agg [i 1, i 1], .c (.bool true)), (1, .agg [i 4, i 2], .c (.bool true)), (2, .agg [i 6, i 3], .c (.bool true)), (3, .agg [i 8, i 4], .c (.bool true)), (4, .agg [i 10, i 5], .c (.bool true)), (5, .agg [i 12, i 6], .c (.bool true)), (6, .agg [i 14, i 7], .c (.bool true)), (7, .agg [i 16, i 8], .c (.bool true)), (8, .agg [i 18, i 9], .c (.bool true)), (9, .agg [i 20, i 10], .c (.bool true))] 10)⟩),
(511, ⟨[], 0, 0, some (.map [] 0)⟩),
(512, ⟨[.snil, .snil, .map 511, i 0], 237, 0, none⟩),
(513, ⟨[.ptr 12 0, .ptr 147 0, .ptr 441 0, o 804 0 33, o 807 0 33, o 810 0 33, f 508 0 33, .ptr 509 0, .map 510, .ptr 512 0], 145, 0, none⟩),
e 514 139,
e 517 139,
e 520 139,
e 523 139,
e 526 139,
e 529 139,
e 532 139,
e 535 139,
e 538 139,
e 541 139,
e 544 139,
e 547 139,
e 550 139,
e 553 139,
e 556 139,
e 559 139,
e 562 139,
e 565 139,
e 568 139,
e 571 139,
e 574 139,
e 577 139,
e 580 139,
e 583 139,
e 586 139,
e 589 139,
e 592 139,
e 595 139,
e 598 139,
e 601 139,
e 604 139,
e 607 139,
e 610 139,
e 613 139,
e 616 139,
e 619 139,
e 622 139,
e 625 139,
e 628 139,
e 631 139,
e 634 139,
e 637 139,
e 640 139,
e 643 139,
e 646 139,
e 649 139,
e 652 139,
e 655 139,
e 658 139,
e 661 139,
e 664 139,
e 667 139,
e 670 139,
e 673 139,
e 676 139,
e 679 139,
e 682 139,
e 685 139,
e 688 139,
e 691 139,
e 694 139,
e 697 139,
e 700 139,
e 703 139,
e 706 139,
e 709 139,
e 712 139,
e 715 139,
e 718 139,
e 721 139,
e 724 139,
e 727 139,
e 730 139,
e 733 139,
e 736 139,
e 739 139,
e 742 139,
e 745 139,
e 748 139,
e 751 139,
e 754 139,
e 757 139,
e 760 139,
e 763 139,
e 766 139,
e 769 139,
e 772 139,
e 775 139,
e 778 139,
e 781 139,
e 784 139,
e 787 139,
e 790 139,
e 793 139,
e 796 139,
e 799 139,
e 802 139,
(804, ⟨[.ptr 514 0, .ptr 523 0, .ptr 532 0, .ptr 541 0, .ptr 550 0, .ptr 559 0, .ptr 568 0, .ptr 577 0, .ptr 586 0, .ptr 595 0, .ptr 604 0, .ptr 613 0, .ptr 622 0, .ptr 631 0, .ptr 640 0, .ptr 649 0, .ptr 658 0, .ptr 667 0, .ptr 676 0, .ptr 685 0, .ptr 694 0, .ptr 703 0, .ptr 712 0, .ptr 721 0, .ptr 730 0, .ptr 739 0, .ptr 748 0, .ptr 757 0, .ptr 766 0, .ptr 775 0, .ptr 784 0, .ptr 793 0, .ptr 802 0], 136, 1, none⟩),
e 805 139,
(807, ⟨[.ptr 517 0, .ptr 526 0, .ptr 535 0, .ptr 544 0, .ptr 553 0, .ptr 562 0, .ptr 571 0, .ptr 580 0, .ptr 589 0, .ptr 598 0, .ptr 607 0, .ptr 616 0, .ptr 625 0, .ptr 634 0, .ptr 643 0, .ptr 652 0, .ptr 661 0, .ptr 670 0, .ptr 679 0, .ptr 688 0, .ptr 697 0, .ptr 706 0, .ptr 715 0, .ptr 724 0, .ptr 733 0, .ptr 742 0, .ptr 751 0, .ptr 760 0, .ptr 769 0, .ptr 778 0, .ptr 787 0, .ptr 796 0, .ptr 805 0], 136, 1, none⟩),
e 808 139,
(810, ⟨[.ptr 520 0, .ptr 529 0, .ptr 538 0, .ptr 547 0, .ptr 556 0, .ptr 565 0, .ptr 574 0, .ptr 583 0, .ptr 592 0, .ptr 601 0, .ptr 610 0, .ptr 619 0, .ptr 628 0, .ptr 637 0, .ptr 646 0, .ptr 655 0, .ptr 664 0, .ptr 673 0, .ptr 682 0, .ptr 691 0, .ptr 700 0, .ptr 709 0, .ptr 718 0, .ptr 727 0, .ptr 736 0, .ptr 745 0, .ptr 754 0, .ptr 763 0, .ptr 772 0, .ptr 781 0, .ptr 790 0, .ptr 799 0, .ptr 808 0], 136, 1, none⟩),
(812, ⟨[.int .u64 (.ofNat 2047)], 224, 1, none⟩)]
private noncomputable abbrev l5 : Bls := [(12141, ⟨[], 0, 0, some (.map [(0, .agg [i 1, i 0, i 0, i 0, i 0], .c (o 18162 0 2)), (1, .agg [i 5, i 1, i 0, i 0, i 0], .c (o 18116 0 1)), (2, .agg [i 2, i 1, i 0, i 0, i 0], .c (o 18194 0 1)), (3, .agg [i 5, i 2, i 0, i 0, i 0], .c (o 18199 0 1)), (4, .agg [i 1, i 4, i 0, i 0, i 0], .c (o 18224 0 1)), (5, .agg [i 2, i 2, i 0, i 0, i 0], .c (o 18256 0 1)), (6, .agg [i 5, i 3, i 0, i 0, i 0], .c (o 18261 0 1)), (7, .agg [i 1, i 6, i 0, i 0, i 0], .c (o 18286 0 1)), (8, .agg [i 2, i 3, i 0, i 0, i 0], .c (o 18318 0 1)), (9, .agg [i 5, i 4, i 0, i 0, i 0], .c (o 18323 0 1)), (10, .agg [i 1, i 8, i 0, i 0, i 0], .c (o 18348 0 1)), (11, .agg [i 2, i 4, i 0, i 0, i 0], .c (o 18380 0 1)), (12, .agg [i 5, i 5, i 0, i 0, i 0], .c (o 18385 0 1)), (13, .agg [i 1, i 10, i 0, i 0, i 0], .c (o 18410 0 1)), (14, .agg [i 2, i 5, i 0, i 0, i 0], .c (o 18442 0 1)), (15, .agg [i 5, i 6, i 0, i 0, i 0], .c (o 18447 0 1)), (16, .agg [i 1, i 12, i 0, i 0, i 0], .c (o 18472 0 1)), (17, .agg [i 2, i 6, i 0, i 0, i 0], .c (o 18504 0 1)), (18, .agg [i 5, i 7, i 0, i 0, i 0], .c (o 18509 0 1)), (19, .agg [i 1, i 14, i 0, i 0, i 0], .c (o 18534 0 1)), (20, .agg [i 2, i 7, i 0, i 0, i 0], .c (o 18566 0 1)), (21, .agg [i 5, i 8, i 0, i 0, i 0], .c (o 18571 0 1)), (22, .agg [i 1, i 16, i 0, i 0, i 0], .c (o 18596 0 1)), (23, .agg [i 2, i 8, i 0, i 0, i 0], .c (o 18628 0 1)), (24, .agg [i 5, i 9, i 0, i 0, i 0], .c (o 18633 0 1)), (25, .agg [i 1, i 18, i 0, i 0, i 0], .c (o 18658 0 1)), (26, .agg [i 2, i 9, i 0, i 0, i 0], .c (o 18690 0 1)), (27, .agg [i 5, i 10, i 0, i 0, i 0], .c (o 18695 0 1)), (28, .agg [i 1, i 20, i 0, i 0, i 0], .c (o 18720 0 1)), (29, .agg [i 2, i 10, i 0, i 0, i 0], .c (o 18737 0 1))] 30)⟩),
(12142, ⟨[.map 12141, .md 1 (.ofNat 0) true], 155, 0, none⟩),
(18116, ⟨[i 1, i 1, i 0, i 0, i 0], 116, 5, none⟩),
(18162, ⟨[i 2, i 1, i 0, i 0, i 0, i 5, i 0, i 0, i 0, i 0], 116, 5, none⟩),
(18194, ⟨[i 2, i 2, i 0, i 0, i 0], 116, 5, none⟩),
(18199, ⟨[i 1, i 4, i 0, i 0, i 0], 116, 5, none⟩),
(18224, ⟨[i 5, i 1, i 0, i 0, i 0], 116, 5, none⟩),
(18256, ⟨[i 2, i 3, i 0, i 0, i 0], 116, 5, none⟩),
(18261, ⟨[i 1, i 6, i 0, i 0, i 0], 116, 5, none⟩),
(18286, ⟨[i 5, i 2, i 0, i 0, i 0], 116, 5, none⟩),
(18318, ⟨[i 2, i 4, i 0, i 0, i 0], 116, 5, none⟩),
(18323, ⟨[i 1, i 8, i 0, i 0, i 0], 116, 5, none⟩),
(18348, ⟨[i 5, i 3, i 0, i 0, i 0], 116, 5, none⟩),
(18380, ⟨[i 2, i 5, i 0, i 0, i 0], 116, 5, none⟩),
(18385, ⟨[i 1, i 10, i 0, i 0, i 0], 116, 5, none⟩),
(18410, ⟨[i 5, i 4, i 0, i 0, i 0], 116, 5, none⟩),
(18442, ⟨[i 2, i 6, i 0, i 0, i 0], 116, 5, none⟩),
(18447, ⟨[i 1, i 12, i 0, i 0, i 0], 116, 5, none⟩),
(18472, ⟨[i 5, i 5, i 0, i 0, i 0], 116, 5, none⟩),
(18504, ⟨[i 2, i 7, i 0, i 0, i 0], 116, 5, none⟩),
(18509, ⟨[i 1, i 14, i 0, i 0, i 0], 116, 5, none⟩),
(18534, ⟨[i 5, i 6, i 0, i 0, i 0], 116, 5, none⟩),
(18566, ⟨[i 2, i 8, i 0, i 0, i 0], 116, 5, none⟩),
(18571, ⟨[i 1, i 16, i 0, i 0, i 0], 116, 5, none⟩),
(18596, ⟨[i 5, i 7, i 0, i 0, i 0], 116, 5, none⟩),
(18628, ⟨[i 2, i 9, i 0, i 0, i 0], 116, 5, none⟩),
(18633, ⟨[i 1, i 18, i 0, i 0, i 0], 116, 5, none⟩),
(18658, ⟨[i 5, i 8, i 0, i 0, i 0], 116, 5, none⟩),
(18690, ⟨[i 2, i 10, i 0, i 0, i 0], 116, 5, none⟩),
(18695, ⟨[i 1, i 20, i 0, i 0, i 0], 116, 5, none⟩),
(18720, ⟨[i 5, i 9, i 0, i 0, i 0], 116, 5, none⟩),
(18737, ⟨[i 5, i 10, i 0, i 0, i 0], 116, 5, none⟩)]
private noncomputable def m0 : MM := ⟨[48], l0, 147, [⟨48, 0, [.v (.c (.ptr 12 0))], .v (.c (.nili))⟩]⟩
private theorem m0_k : H0.tbl m0 = true := by kernel_rfl
private noncomputable def h1 : HK := H0.memo m0 m0_k
private noncomputable def m1 : MM := ⟨[155], l1, 328, [⟨155, 0, [.v (.c (.ptr 12 0)), .v (.c (i 0))], .tup [.agg [i 0, i 0, i 0], .c (.bool true)]⟩,
⟨155, 1, [.v (.c (.ptr 12 0)), .v (.c (i 1))], .tup [.agg [i 0, i 0, i 1], .c (.bool true)]⟩,
⟨155, 2, [.v (.c (.ptr 12 0)), .v (.c (i 2))], .tup [.agg [i 0, i 0, i 2], .c (.bool true)]⟩,
⟨155, 3, [.v (.c (.ptr 12 0)), .v (.c (i 3))], .tup [.agg [i 0, i 0, i 3], .c (.bool true)]⟩,
⟨155, 4, [.v (.c (.ptr 12 0)), .v (.c (i 4))], .tup [.agg [i 1, i 0, i 0], .c (.bool true)]⟩,
⟨155, 5, [.v (.c (.ptr 12 0)), .v (.c (i 5))], .tup [.agg [i 1, i 0, i 1], .c (.bool true)]⟩,
⟨155, 6, [.v (.c (.ptr 12 0)), .v (.c (i 6))], .tup [.agg [i 2, i 0, i 0], .c (.bool true)]⟩,
⟨155, 7, [.v (.c (.ptr 12 0)), .v (.c (i 7))], .tup [.agg [i 2, i 0, i 1], .c (.bool true)]⟩,
⟨155, 8, [.v (.c (.ptr 12 0)), .v (.c (i 8))], .tup [.agg [i 3, i 0, i 0], .c (.bool true)]⟩,
⟨155, 9, [.v (.c (.ptr 12 0)), .v (.c (i 9))], .tup [.agg [i 3, i 0, i 1], .c (.bool true)]⟩,
⟨155, 10, [.v (.c (.ptr 12 0)), .v (.c (i 10))], .tup [.agg [i 4, i 0, i 0], .c (.bool true)]⟩,
⟨155, 11, [.v (.c (.ptr 12 0)), .v (.c (i 11))], .tup [.agg [i 4, i 0, i 1], .c (.bool true)]⟩,
⟨155, 12, [.v (.c (.ptr 12 0)), .v (.c (i 12))], .tup [.agg [i 5, i 0, i 0], .c (.bool true)]⟩,
⟨155, 13, [.v (.c (.ptr 12 0)), .v (.c (i 13))], .tup [.agg [i 5, i 0, i 1], .c (.bool true)]⟩,
⟨155, 14, [.v (.c (.ptr 12 0)), .v (.c (i 14))], .tup [.agg [i 6, i 0, i 0], .c (.bool true)]⟩,
⟨155, 15, [.v (.c (.ptr 12 0)), .v (.c (i 15))], .tup [.agg [i 6, i 0, i 1], .c (.bool true)]⟩,
⟨155, 16, [.v (.c (.ptr 12 0)), .v (.c (i 16))], .tup [.agg [i 7, i 0, i 0], .c (.bool true)]⟩,
⟨155, 17, [.v (.c (.ptr 12 0)), .v (.c (i 17))], .tup [.agg [i 7, i 0, i 1], .c (.bool true)]⟩,
⟨155, 18, [.v (.c (.ptr 12 0)), .v (.c (i 18))], .tup [.agg [i 8, i 0, i 0], .c (.bool true)]⟩,
⟨155, 19, [.v (.c (.ptr 12 0)), .v (.c (i 19))], .tup [.agg [i 8, i 0, i 1], .c (.bool true)]⟩,
⟨155, 20, [.v (.c (.ptr 12 0)), .v (.c (i 20))], .tup [.agg [i 9, i 0, i 0], .c (.bool true)]⟩,
⟨155, 21, [.v (.c (.ptr 12 0)), .v (.c (i 21))], .tup [.agg [i 9, i 0, i 1], .c (.bool true)]⟩,
⟨155, 22, [.v (.c (.ptr 12 0)), .v (.c (i 22))], .tup [.agg [i 10, i 0, i 0], .c (.bool true)]⟩]⟩
private theorem m1_k : h1.tbl m1 = true := by kernel_rfl
private noncomputable def h2 : HK := h1.memo m1 m1_k
private noncomputable def s1 : RE := ⟨76, [.v (.c (.ptr 12 0))], 147, .v (.c (.ptr 147 0)), l2, 441⟩
private theorem s1_k : h2.srp l0 s1 = true := by kernel_rfl
private noncomputable def h3 : HK := h2.srep _ s1 s1_k
private noncomputable def s2 : RE := ⟨87, [.v (.c (.ptr 12 0))], 1108, .v (.c (o 1153 0 23)), [(1153, ⟨[i 0, i 0, i 0, i 0, i 0, i 1, i 0, i 0, i 2, i 0, i 0, i 3, i 1, i 0, i 0, i 1, i 0, i 1, i 2, i 0, i 0, i 2, i 0, i 1, i 3, i 0, i 0, i 3, i 0, i 1, i 4, i 0, i 0, i 4, i 0, i 1, i 5, i 0, i 0, i 5, i 0, i 1, i 6, i 0, i 0, i 6, i 0, i 1, i 7, i 0, i 0, i 7, i 0, i 1, i 8, i 0, i 0, i 8, i 0, i 1, i 9, i 0, i 0, i 9, i 0, i 1, i 10, i 0, i 0], 88, 3, none⟩)], 1154⟩
private theorem s2_k : h3.srp l0 s2 = true := by kernel_rfl
private noncomputable def h4 : HK := h3.srep _ s2 s2_k
private noncomputable def s3 : RE := ⟨49, [.v (.c (.ptr 12 0)), .v (.c (.snil))], 147, .v (.c (.ptr 513 0)), l3, 9819⟩
private theorem s3_k : h4.rep l0 s3 = true := by kernel_rfl
private noncomputable def h5 : HK := h4.repl _ s3 s3_k
private noncomputable def s4 : RE := ⟨151, [.v (.c (.ptr 12 0)), .v (.c (.ptr 513 0)), .v (.c (i 1))], 10063, .v (.c (.snil)), [], 10293⟩
private theorem s4_k : h5.srp l4 s4 = true := by kernel_rfl
private noncomputable def h6 : HK := h5.srep _ s4 s4_k
private noncomputable def s5 : RE := ⟨151, [.v (.c (.ptr 12 0)), .v (.c (.ptr 513 0)), .v (.c (i 4))], 10322, .v (.c (.snil)), [], 10543⟩
private theorem s5_k : h6.srp l4 s5 = true := by kernel_rfl
private noncomputable def h7 : HK := h6.srep _ s5 s5_k
private noncomputable def s6 : RE := ⟨151, [.v (.c (.ptr 12 0)), .v (.c (.ptr 513 0)), .v (.c (i 6))], 10559, .v (.c (.snil)), [], 10771⟩
private theorem s6_k : h7.srp l4 s6 = true := by kernel_rfl
private noncomputable def h8 : HK := h7.srep _ s6 s6_k
private noncomputable def s7 : RE := ⟨151, [.v (.c (.ptr 12 0)), .v (.c (.ptr 513 0)), .v (.c (i 8))], 10787, .v (.c (.snil)), [], 10990⟩
private theorem s7_k : h8.srp l4 s7 = true := by kernel_rfl
private noncomputable def h9 : HK := h8.srep _ s7 s7_k
private noncomputable def s8 : RE := ⟨151, [.v (.c (.ptr 12 0)), .v (.c (.ptr 513 0)), .v (.c (i 10))], 11006, .v (.c (.snil)), [], 11200⟩
private theorem s8_k : h9.srp l4 s8 = true := by kernel_rfl
private noncomputable def h10 : HK := h9.srep _ s8 s8_k
private noncomputable def s9 : RE := ⟨151, [.v (.c (.ptr 12 0)), .v (.c (.ptr 513 0)), .v (.c (i 12))], 11216, .v (.c (.snil)), [], 11401⟩
private theorem s9_k : h10.srp l4 s9 = true := by kernel_rfl
private noncomputable def h11 : HK := h10.srep _ s9 s9_k
private noncomputable def s10 : RE := ⟨151, [.v (.c (.ptr 12 0)), .v (.c (.ptr 513 0)), .v (.c (i 14))], 11417, .v (.c (.snil)), [], 11593⟩
private theorem s10_k : h11.srp l4 s10 = true := by kernel_rfl
private noncomputable def h12 : HK := h11.srep _ s10 s10_k
private noncomputable def s11 : RE := ⟨151, [.v (.c (.ptr 12 0)), .v (.c (.ptr 513 0)), .v (.c (i 16))], 11609, .v (.c (.snil)), [], 11776⟩
private theorem s11_k : h12.srp l4 s11 = true := by kernel_rfl
private noncomputable def h13 : HK := h12.srep _ s11 s11_k
private noncomputable def s12 : RE := ⟨151, [.v (.c (.ptr 12 0)), .v (.c (.ptr 513 0)), .v (.c (i 18))], 11792, .v (.c (.snil)), [], 11950⟩
private theorem s12_k : h13.srp l4 s12 = true := by kernel_rfl
private noncomputable def h14 : HK := h13.srep _ s12 s12_k
private noncomputable def s13 : RE := ⟨151, [.v (.c (.ptr 12 0)), .v (.c (.ptr 513 0)), .v (.c (i 20))], 11966, .v (.c (.snil)), [], 12115⟩
private theorem s13_k : h14.srp l4 s13 = true := by kernel_rfl
private noncomputable def h15 : HK := h14.srep _ s13 s13_k
private noncomputable def s14 : RE := ⟨85, [.v (.c (.ptr 12 0)), .v (.c (.ptr 513 0)), .v (.c (i 0))], 12144, .v (.c (.snil)), [], 12602⟩
private theorem s14_k : h15.srp l4 s14 = true := by kernel_rfl
private noncomputable def h16 : HK := h15.srep _ s14 s14_k
private noncomputable def s15 : RE := ⟨86, [.v (.c (.ptr 12 0)), .v (.c (.ptr 513 0)), .v (.c (i 0))], 12604, .v (.c (.snil)), [], 12833⟩
private theorem s15_k : h16.srp l4 s15 = true := by kernel_rfl
private noncomputable def h17 : HK := h16.srep _ s15 s15_k
private noncomputable def s16 : RE := ⟨85, [.v (.c (.ptr 12 0)), .v (.c (.ptr 513 0)), .v (.c (i 1))], 12835, .v (.c (.snil)), [], 13259⟩
private theorem s16_k : h17.srp l4 s16 = true := by kernel_rfl
private noncomputable def h18 : HK := h17.srep _ s16 s16_k
private noncomputable def s17 : RE := ⟨86, [.v (.c (.ptr 12 0)), .v (.c (.ptr 513 0)), .v (.c (i 1))], 13261, .v (.c (.snil)), [], 13473⟩
private theorem s17_k : h18.srp l4 s17 = true := by kernel_rfl
private noncomputable def h19 : HK := h18.srep _ s17 s17_k
private noncomputable def s18 : RE := ⟨85, [.v (.c (.ptr 12 0)), .v (.c (.ptr 513 0)), .v (.c (i 2))], 13475, .v (.c (.snil)), [], 13881⟩
private theorem s18_k : h19.srp l4 s18 = true := by kernel_rfl
private noncomputable def h20 : HK := h19.srep _ s18 s18_k
private noncomputable def s19 : RE := ⟨86, [.v (.c (.ptr 12 0)), .v (.c (.ptr 513 0)), .v (.c (i 2))], 13883, .v (.c (.snil)), [], 14086⟩
private theorem s19_k : h20.srp l4 s19 = true := by kernel_rfl
private noncomputable def h21 : HK := h20.srep _ s19 s19_k
private noncomputable def s20 : RE := ⟨85, [.v (.c (.ptr 12 0)), .v (.c (.ptr 513 0)), .v (.c (i 3))], 14088, .v (.c (.snil)), [], 14476⟩
private theorem s20_k : h21.srp l4 s20 = true := by kernel_rfl
private noncomputable def h22 : HK := h21.srep _ s20 s20_k
private noncomputable def s21 : RE := ⟨86, [.v (.c (.ptr 12 0)), .v (.c (.ptr 513 0)), .v (.c (i 3))], 14478, .v (.c (.snil)), [], 14672⟩
private theorem s21_k : h22.srp l4 s21 = true := by kernel_rfl
private noncomputable def h23 : HK := h22.srep _ s21 s21_k
private noncomputable def s22 : RE := ⟨85, [.v (.c (.ptr 12 0)), .v (.c (.ptr 513 0)), .v (.c (i 4))], 14674, .v (.c (.snil)), [], 15044⟩
private theorem s22_k : h23.srp l4 s22 = true := by kernel_rfl
private noncomputable def h24 : HK := h23.srep _ s22 s22_k
private noncomputable def s23 : RE := ⟨86, [.v (.c (.ptr 12 0)), .v (.c (.ptr 513 0)), .v (.c (i 4))], 15046, .v (.c (.snil)), [], 15231⟩
private theorem s23_k : h24.srp l4 s23 = true := by kernel_rfl
private noncomputable def h25 : HK := h24.srep _ s23 s23_k
private noncomputable def s24 : RE := ⟨85, [.v (.c (.ptr 12 0)), .v (.c (.ptr 513 0)), .v (.c (i 5))], 15233, .v (.c (.snil)), [], 15585⟩
private theorem s24_k : h25.srp l4 s24 = true := by kernel_rfl
private noncomputable def h26 : HK := h25.srep _ s24 s24_k
private noncomputable def s25 : RE := ⟨86, [.v (.c (.ptr 12 0)), .v (.c (.ptr 513 0)), .v (.c (i 5))], 15587, .v (.c (.snil)), [], 15763⟩
private theorem s25_k : h26.srp l4 s25 = true := by kernel_rfl
private noncomputable def h27 : HK := h26.srep _ s25 s25_k
private noncomputable def s26 : RE := ⟨85, [.v (.c (.ptr 12 0)), .v (.c (.ptr 513 0)), .v (.c (i 6))], 15765, .v (.c (.snil)), [], 16099⟩
private theorem s26_k : h27.srp l4 s26 = true := by kernel_rfl
private noncomputable def h28 : HK := h27.srep _ s26 s26_k
private noncomputable def s27 : RE := ⟨86, [.v (.c (.ptr 12 0)), .v (.c (.ptr 513 0)), .v (.c (i 6))], 16101, .v (.c (.snil)), [], 16268⟩
private theorem s27_k : h28.srp l4 s27 = true := by kernel_rfl
private noncomputable def h29 : HK := h28.srep _ s27 s27_k
private noncomputable def s28 : RE := ⟨85, [.v (.c (.ptr 12 0)), .v (.c (.ptr 513 0)), .v (.c (i 7))], 16270, .v (.c (.snil)), [], 16586⟩
private theorem s28_k : h29.srp l4 s28 = true := by kernel_rfl
private noncomputable def h30 : HK := h29.srep _ s28 s28_k
private noncomputable def s29 : RE := ⟨86, [.v (.c (.ptr 12 0)), .v (.c (.ptr 513 0)), .v (.c (i 7))], 16588, .v (.c (.snil)), [], 16746⟩
private theorem s29_k : h30.srp l4 s29 = true := by kernel_rfl
private noncomputable def h31 : HK := h30.srep _ s29 s29_k
private noncomputable def s30 : RE := ⟨85, [.v (.c (.ptr 12 0)), .v (.c (.ptr 513 0)), .v (.c (i 8))], 16748, .v (.c (.snil)), [], 17046⟩
private theorem s30_k : h31.srp l4 s30 = true := by kernel_rfl
private noncomputable def h32 : HK := h31.srep _ s30 s30_k
private noncomputable def s31 : RE := ⟨86, [.v (.c (.ptr 12 0)), .v (.c (.ptr 513 0)), .v (.c (i 8))], 17048, .v (.c (.snil)), [], 17197⟩
private theorem s31_k : h32.srp l4 s31 = true := by kernel_rfl
private noncomputable def h33 : HK := h32.srep _ s31 s31_k
private noncomputable def s32 : RE := ⟨85, [.v (.c (.ptr 12 0)), .v (.c (.ptr 513 0)), .v (.c (i 9))], 17199, .v (.c (.snil)), [], 17479⟩
private theorem s32_k : h33.srp l4 s32 = true := by kernel_rfl
private noncomputable def h34 : HK := h33.srep _ s32 s32_k
private noncomputable def s33 : RE := ⟨86, [.v (.c (.ptr 12 0)), .v (.c (.ptr 513 0)), .v (.c (i 9))], 17481, .v (.c (.snil)), [], 17621⟩
private theorem s33_k : h34.srp l4 s33 = true := by kernel_rfl
private noncomputable def h35 : HK := h34.srep _ s33 s33_k
private noncomputable def s34 : RE := ⟨85, [.v (.c (.ptr 12 0)), .v (.c (.ptr 513 0)), .v (.c (i 10))], 17623, .v (.c (.snil)), [], 17885⟩
private theorem s34_k : h35.srp l4 s34 = true := by kernel_rfl
private noncomputable def h36 : HK := h35.srep _ s34 s34_k
private noncomputable def s35 : RE := ⟨86, [.v (.c (.ptr 12 0)), .v (.c (.ptr 513 0)), .v (.c (i 10))], 17887, .v (.c (.snil)), [], 18018⟩
private theorem s35_k : h36.srp l4 s35 = true := by kernel_rfl
private noncomputable def h37 : HK := h36.srep _ s35 s35_k
private noncomputable def s36 : RE := ⟨50, [.v (.c (.ptr 12 0)), .v (.c (.ptr 513 0))], 9819, .v (.c (.ptr 12142 0)), l5, 18739⟩
private theorem s36_k : h37.rep l4 s36 = true := by kernel_rfl
private noncomputable def h38 : HK := h37.repl _ s36 s36_k
theorem TopTaintCalls_9_f_run : isBool true (runW h38.K 4 [mi 10 9, ab false] s0) = true := by kernel_rfl
theorem TopTaintCalls_9_f_law {args : Array Value} (ha : VAs (fun _ => none) [mi 10 9, ab false] args.toList) (w : World) (hT : Tab w) :
    Calls Tryz.prog 4 args w fun e w' => Below w.heap.size w w' ∧ e = .returned (.bool true) := h38.law TopTaintCalls_9_f_run ha w hT
end Go.Proofs.YteajpblmbmncdaaGreatDoor
