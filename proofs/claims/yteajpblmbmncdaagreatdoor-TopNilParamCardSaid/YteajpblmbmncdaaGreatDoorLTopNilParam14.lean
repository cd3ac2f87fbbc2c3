/- Tables of calls, and a run that uses them. -/
import Derived.Test.YteajpblmbmncdaaGreatDoorLn
namespace Go.Proofs.YteajpblmbmncdaaGreatDoor
open Go Go.RowKit Ev
set_option maxRecDepth 100000
set_option linter.unusedVariables false
private noncomputable abbrev i (n : Nat) : CV := .int .i64 (.ofNat n)
private noncomputable abbrev o (b a n : Nat) : CV := .slice b a n (.opn 0)
private noncomputable abbrev f (b a n : Nat) : CV := .slice b a n (.fix n)
private noncomputable abbrev e (k t : Nat) : Nat × BK := (k, ⟨[.snil], t, 0, none⟩)
private noncomputable abbrev l0 : Bls := [(1, ⟨[i 0, i 0, i 0, i 0, i 1, i 0], 69, 0, none⟩),
(2, ⟨[f 1 0 3], 47, 0, none⟩),
(4, ⟨[i 1, i 0], 69, 0, none⟩),
(5, ⟨[i 0, i 0], 69, 0, none⟩),
(7, ⟨[i 1, i 0], 69, 0, none⟩),
(9, ⟨[.snil, i 0, i 0, f 4 0 1, i 0, i 0, f 5 0 1, i 0, i 0, f 7 0 1, i 1, i 0], 72, 0, none⟩),
(10, ⟨[i 0], 3, 0, none⟩),
(11, ⟨[f 10 0 1], 74, 0, none⟩),
(12, ⟨[f 2 0 1, f 9 0 4, f 11 0 1, .snil, o 123 0 9, i 0], 57, 0, none⟩),
(20, ⟨[i 0, i 0, i 1, i 0], 69, 2, none⟩),
(21, ⟨[o 31 0 3, i 3, i 0, i 0, i 0], 46, 0, none⟩),
(28, ⟨[i 1], 3, 0, none⟩),
(31, ⟨[i 1, i 0, i 0, i 0, i 1, .snil, i 4, i 1, i 0, i 0, i 0, .snil, i 12, i 0, i 0, i 0, i 1, f 28 0 1], 29, 6, none⟩),
(36, ⟨[i 1, i 0, i 0, i 0], 69, 2, none⟩),
(37, ⟨[o 43 0 1, i 3, i 1, i 0, i 0], 46, 0, none⟩),
(40, ⟨[i 0], 3, 0, none⟩),
(43, ⟨[i 12, i 1, i 0, i 0, i 2, f 40 0 1], 29, 6, none⟩),
(48, ⟨[i 1, i 0, i 0, i 0], 69, 2, none⟩),
(49, ⟨[o 55 0 1, i 3, i 1, i 0, i 0], 46, 0, none⟩),
(52, ⟨[i 0], 3, 0, none⟩),
(55, ⟨[i 12, i 1, i 0, i 0, i 3, f 52 0 1], 29, 6, none⟩),
(60, ⟨[i 1, i 0, i 0, i 0], 69, 2, none⟩),
(61, ⟨[o 67 0 1, i 3, i 1, i 0, i 0], 46, 0, none⟩),
(64, ⟨[i 0], 3, 0, none⟩),
(67, ⟨[i 12, i 1, i 0, i 0, i 4, f 64 0 1], 29, 6, none⟩),
(72, ⟨[i 1, i 0, i 0, i 0], 69, 2, none⟩),
(73, ⟨[o 79 0 1, i 3, i 1, i 0, i 0], 46, 0, none⟩),
(76, ⟨[i 0], 3, 0, none⟩),
(79, ⟨[i 12, i 1, i 0, i 0, i 5, f 76 0 1], 29, 6, none⟩),
(84, ⟨[i 1, i 0, i 0, i 0], 69, 2, none⟩),
(85, ⟨[o 91 0 1, i 3, i 1, i 0, i 0], 46, 0, none⟩),
(88, ⟨[i 0], 3, 0, none⟩),
(91, ⟨[i 12, i 1, i 0, i 0, i 6, f 88 0 1], 29, 6, none⟩),
(96, ⟨[i 1, i 0, i 0, i 0], 69, 2, none⟩),
(97, ⟨[o 103 0 1, i 3, i 1, i 0, i 0], 46, 0, none⟩),
(100, ⟨[i 0], 3, 0, none⟩),
(103, ⟨[i 12, i 1, i 0, i 0, i 7, f 100 0 1], 29, 6, none⟩),
(108, ⟨[i 1, i 0, i 0, i 0], 69, 2, none⟩),
(109, ⟨[o 115 0 1, i 3, i 1, i 0, i 0], 46, 0, none⟩),
(112, ⟨[i 0], 3, 0, none⟩),
(115, ⟨[i 12, i 1, i 0, i 0, i 8, f 112 0 1], 29, 6, none⟩),
(120, ⟨[i 1, i 0, i 0, i 0], 69, 2, none⟩),
(121, ⟨[o 126 0 1, i 3, i 1, i 0, i 0], 46, 0, none⟩),
(123, ⟨[i 0, o 20 0 2, f 21 0 1, i 1, o 36 0 2, f 37 0 1, i 1, o 48 0 2, f 49 0 1, i 1, o 60 0 2, f 61 0 1, i 1, o 72 0 2, f 73 0 1, i 1, o 84 0 2, f 85 0 1, i 1, o 96 0 2, f 97 0 1, i 1, o 108 0 2, f 109 0 1, i 1, o 120 0 2, f 121 0 1], 50, 3, none⟩),
(126, ⟨[i 7, i 1, i 0, i 0, i 0, .snil], 29, 6, none⟩)]
private noncomputable abbrev l1 : Bls := [(12, ⟨[f 2 0 1, f 9 0 4, f 11 0 1, .snil, o 123 0 9, i 0], 57, 0, none⟩),
(21, ⟨[o 31 0 3, i 3, i 0, i 0, i 0], 46, 0, none⟩),
(37, ⟨[o 43 0 1, i 3, i 1, i 0, i 0], 46, 0, none⟩),
(49, ⟨[o 55 0 1, i 3, i 1, i 0, i 0], 46, 0, none⟩),
(61, ⟨[o 67 0 1, i 3, i 1, i 0, i 0], 46, 0, none⟩),
(73, ⟨[o 79 0 1, i 3, i 1, i 0, i 0], 46, 0, none⟩),
(85, ⟨[o 91 0 1, i 3, i 1, i 0, i 0], 46, 0, none⟩),
(97, ⟨[o 103 0 1, i 3, i 1, i 0, i 0], 46, 0, none⟩),
(109, ⟨[o 115 0 1, i 3, i 1, i 0, i 0], 46, 0, none⟩),
(121, ⟨[o 126 0 1, i 3, i 1, i 0, i 0], 46, 0, none⟩),
(123, ⟨[i 0, o 20 0 2, f 21 0 1, i 1, o 36 0 2, f 37 0 1, i 1, o 48 0 2, f 49 0 1, i 1, o 60 0 2, f 61 0 1, i 1, o 72 0 2, f 73 0 1, i 1, o 84 0 2, f 85 0 1, i 1, o 96 0 2, f 97 0 1, i 1, o 108 0 2, f 109 0 1, i 1, o 120 0 2, f 121 0 1], 50, 3, none⟩)]
private noncomputable abbrev l2 : Bls := [(170, ⟨[o 274 0 9, o 278 0 9, .snil, .snil, .snil, i 27], 230, 0, none⟩),
(176, ⟨[i 0, i 1], 3, 1, none⟩),
(188, ⟨[i 3, i 4], 3, 1, none⟩),
(200, ⟨[i 6, i 7], 3, 1, none⟩),
(212, ⟨[i 9, i 10], 3, 1, none⟩),
(224, ⟨[i 12, i 13], 3, 1, none⟩),
(236, ⟨[i 15, i 16], 3, 1, none⟩),
(248, ⟨[i 18, i 19], 3, 1, none⟩),
(260, ⟨[i 21, i 22], 3, 1, none⟩),
(272, ⟨[i 24, i 25], 3, 1, none⟩),
(274, ⟨[o 176 0 2, o 188 0 2, o 200 0 2, o 212 0 2, o 224 0 2, o 236 0 2, o 248 0 2, o 260 0 2, o 272 0 2], 27, 1, none⟩),
(278, ⟨[i 2, i 5, i 8, i 11, i 14, i 17, i 20, i 23, i 26], 3, 1, none⟩)]
private noncomputable abbrev l3 : Bls := [(170, ⟨[o 274 0 9, o 278 0 9, .snil, .snil, .snil, i 27], 230, 0, none⟩),
(176, ⟨[i 0, i 1], 3, 1, none⟩),
(188, ⟨[i 3, i 4], 3, 1, none⟩),
(200, ⟨[i 6, i 7], 3, 1, none⟩),
(212, ⟨[i 9, i 10], 3, 1, none⟩),
(224, ⟨[i 12, i 13], 3, 1, none⟩),
(236, ⟨[i 15, i 16], 3, 1, none⟩),
(248, ⟨[i 18, i 19], 3, 1, none⟩),
(260, ⟨[i 21, i 22], 3, 1, none⟩),
(272, ⟨[i 24, i 25], 3, 1, none⟩),
(274, ⟨[o 176 0 2, o 188 0 2, o 200 0 2, o 212 0 2, o 224 0 2, o 236 0 2, o 248 0 2, o 260 0 2, o 272 0 2], 27, 1, none⟩),
(278, ⟨[i 2, i 5, i 8, i 11, i 14, i 17, i 20, i 23, i 26], 3, 1, none⟩),
(419, ⟨[o 473 0 27], 233, 0, none⟩),
(473, ⟨[i 0, i 1, i 2, i 3, i 4, i 5, i 6, i 7, i 8, i 9, i 10, i 11, i 12, i 13, i 14, i 15, i 16, i 17, i 18, i 19, i 20, i 21, i 22, i 23, i 24, i 25, i 26], 3, 1, none⟩),
(474, ⟨[.snil, .snil, .snil, .snil, .snil, .snil, .snil, .snil, .snil, .snil, .snil, .snil, .snil, .snil, .snil, .snil, .snil, .snil, .snil, .snil, .snil, .snil, .snil, .snil, .snil, .snil, .snil], 238, 0, none⟩),
(475, ⟨[o 724 0 1], 139, 0, none⟩),
(476, ⟨[], 0, 0, some (.map [(0, .agg [i 2, i 1], .c (.bool true)), (1, .agg [i 4, i 2], .c (.bool true)), (2, .agg [i 6, i 3], .c (.bool true)), (3, .agg [i 8, i 4], .c (.bool true)), (4, .agg [i 10, i 5], .c (.bool true)), (5, .agg [i 12, i 6], .c (.bool true)), (6, .agg [i 14, i 7], .c (.bool true)), (7, .agg [i 16, i 8], .c (.bool true))] 8)⟩),
(477, ⟨[], 0, 0, some (.map [] 0)⟩),
(478, ⟨[.snil, .snil, .map 477, i 0], 237, 0, none⟩),
(479, ⟨[.ptr 12 0, .ptr 170 0, .ptr 419 0, o 716 0 27, o 719 0 27, o 722 0 27, f 474 0 27, .ptr 475 0, .map 476, .ptr 478 0], 145, 0, none⟩),
e 480 139,
e 483 139,
e 486 139,
e 489 139,
e 492 139,
(495, ⟨[o 1071 0 1], 139, 0, none⟩),
e 498 139,
e 501 139,
e 504 139,
e 507 139,
e 510 139,
(513, ⟨[o 1722 0 1], 139, 0, none⟩),
e 516 139,
e 519 139,
e 522 139,
e 525 139,
e 528 139,
e 531 139,
e 534 139,
e 537 139,
(540, ⟨[o 2383 0 1], 139, 0, none⟩),
e 543 139,
e 546 139,
e 549 139,
e 552 139,
e 555 139,
e 558 139,
e 561 139,
e 564 139,
(567, ⟨[o 3054 0 1], 139, 0, none⟩),
e 570 139,
e 573 139,
e 576 139,
e 579 139,
e 582 139,
e 585 139,
e 588 139,
e 591 139,
(594, ⟨[o 3735 0 1], 139, 0, none⟩),
e 597 139,
e 600 139,
e 603 139,
e 606 139,
e 609 139,
e 612 139,
e 615 139,
e 618 139,
(621, ⟨[o 4426 0 1], 139, 0, none⟩),
e 624 139,
e 627 139,
e 630 139,
e 633 139,
e 636 139,
e 639 139,
e 642 139,
e 645 139,
(648, ⟨[o 5127 0 1], 139, 0, none⟩),
e 651 139,
e 654 139,
e 657 139,
e 660 139,
e 663 139,
e 666 139,
e 669 139,
e 672 139,
(675, ⟨[o 5838 0 1], 139, 0, none⟩),
e 678 139,
e 681 139,
e 684 139,
e 687 139,
e 690 139,
e 693 139,
e 696 139,
e 699 139,
e 702 139,
e 705 139,
e 708 139,
e 711 139,
e 714 139,
(716, ⟨[.ptr 480 0, .ptr 489 0, .ptr 498 0, .ptr 507 0, .ptr 516 0, .ptr 525 0, .ptr 534 0, .ptr 543 0, .ptr 552 0, .ptr 561 0, .ptr 570 0, .ptr 579 0, .ptr 588 0, .ptr 597 0, .ptr 606 0, .ptr 615 0, .ptr 624 0, .ptr 633 0, .ptr 642 0, .ptr 651 0, .ptr 660 0, .ptr 669 0, .ptr 678 0, .ptr 687 0, .ptr 696 0, .ptr 705 0, .ptr 714 0], 136, 1, none⟩),
e 717 139,
(719, ⟨[.ptr 483 0, .ptr 492 0, .ptr 501 0, .ptr 510 0, .ptr 519 0, .ptr 528 0, .ptr 537 0, .ptr 546 0, .ptr 555 0, .ptr 564 0, .ptr 573 0, .ptr 582 0, .ptr 591 0, .ptr 600 0, .ptr 609 0, .ptr 618 0, .ptr 627 0, .ptr 636 0, .ptr 645 0, .ptr 654 0, .ptr 663 0, .ptr 672 0, .ptr 681 0, .ptr 690 0, .ptr 699 0, .ptr 708 0, .ptr 717 0], 136, 1, none⟩),
e 720 139,
(722, ⟨[.ptr 486 0, .ptr 495 0, .ptr 504 0, .ptr 513 0, .ptr 522 0, .ptr 531 0, .ptr 540 0, .ptr 549 0, .ptr 558 0, .ptr 567 0, .ptr 576 0, .ptr 585 0, .ptr 594 0, .ptr 603 0, .ptr 612 0, .ptr 621 0, .ptr 630 0, .ptr 639 0, .ptr 648 0, .ptr 657 0, .ptr 666 0, .ptr 675 0, .ptr 684 0, .ptr 693 0, .ptr 702 0, .ptr 711 0, .ptr 720 0], 136, 1, none⟩),
(724, ⟨[.int .u64 (.ofNat 511)], 224, 1, none⟩),
(1071, ⟨[.int .u64 (.ofNat 8)], 224, 1, none⟩),
(1722, ⟨[.int .u64 (.ofNat 64)], 224, 1, none⟩),
(2383, ⟨[.int .u64 (.ofNat 512)], 224, 1, none⟩),
(3054, ⟨[.int .u64 (.ofNat 4096)], 224, 1, none⟩),
(3735, ⟨[.int .u64 (.ofNat 32768)], 224, 1, none⟩),
(4426, ⟨[.int .u64 (.ofNat 262144)], 224, 1, none⟩),
(5127, ⟨[.int .u64 (.ofNat 2097152)], 224, 1, none⟩),
(5838, ⟨[.int .u64 (.ofNat 16777216)], 224, 1, none⟩)]
private noncomputable abbrev l4 : Bls := [(1, ⟨[i 0, i 0, i 0, i 0, i 1, i 0], 69, 0, none⟩),
(2, ⟨[f 1 0 3], 47, 0, none⟩),
(4, ⟨[i 1, i 0], 69, 0, none⟩),
(5, ⟨[i 0, i 0], 69, 0, none⟩),
(7, ⟨[i 1, i 0], 69, 0, none⟩),
(9, ⟨[.snil, i 0, i 0, f 4 0 1, i 0, i 0, f 5 0 1, i 0, i 0, f 7 0 1, i 1, i 0], 72, 0, none⟩),
(10, ⟨[i 0], 3, 0, none⟩),
(11, ⟨[f 10 0 1], 74, 0, none⟩),
(12, ⟨[f 2 0 1, f 9 0 4, f 11 0 1, .snil, o 123 0 9, i 0], 57, 0, none⟩),
(20, ⟨[i 0, i 0, i 1, i 0], 69, 2, none⟩),
(21, ⟨[o 31 0 3, i 3, i 0, i 0, i 0], 46, 0, none⟩),
(28, ⟨[i 1], 3, 0, none⟩),
(31, ⟨[i 1, i 0, i 0, i 0, i 1, .snil, i 4, i 1, i 0, i 0, i 0, .snil, i 12, i 0, i 0, i 0, i 1, f 28 0 1], 29, 6, none⟩),
(36, ⟨[i 1, i 0, i 0, i 0], 69, 2, none⟩),
(37, ⟨[o 43 0 1, i 3, i 1, i 0, i 0], 46, 0, none⟩),
(40, ⟨[i 0], 3, 0, none⟩),
(43, ⟨[i 12, i 1, i 0, i 0, i 2, f 40 0 1], 29, 6, none⟩),
(48, ⟨[i 1, i 0, i 0, i 0], 69, 2, none⟩),
(49, ⟨[o 55 0 1, i 3, i 1, i 0, i 0], 46, 0, none⟩),
(52, ⟨[i 0], 3, 0, none⟩),
(55, ⟨[i 12, i 1, i 0, i 0, i 3, f 52 0 1], 29, 6, none⟩),
(60, ⟨[i 1, i 0, i 0, i 0], 69, 2, none⟩),
(61, ⟨[o 67 0 1, i 3, i 1, i 0, i 0], 46, 0, none⟩),
(64, ⟨[i 0], 3, 0, none⟩),
(67, ⟨[i 12, i 1, i 0, i 0, i 4, f 64 0 1], 29, 6, none⟩),
(72, ⟨[i 1, i 0, i 0, i 0], 69, 2, none⟩),
(73, ⟨[o 79 0 1, i 3, i 1, i 0, i 0], 46, 0, none⟩),
(76, ⟨[i 0], 3, 0, none⟩),
(79, ⟨[i 12, i 1, i 0, i 0, i 5, f 76 0 1], 29, 6, none⟩),
(84, ⟨[i 1, i 0, i 0, i 0], 69, 2, none⟩),
(85, ⟨[o 91 0 1, i 3, i 1, i 0, i 0], 46, 0, none⟩),
(88, ⟨[i 0], 3, 0, none⟩),
(91, ⟨[i 12, i 1, i 0, i 0, i 6, f 88 0 1], 29, 6, none⟩),
(96, ⟨[i 1, i 0, i 0, i 0], 69, 2, none⟩),
(97, ⟨[o 103 0 1, i 3, i 1, i 0, i 0], 46, 0, none⟩),
(100, ⟨[i 0], 3, 0, none⟩),
(103, ⟨[i 12, i 1, i 0, i 0, i 7, f 100 0 1], 29, 6, none⟩),
(108, ⟨[i 1, i 0, i 0, i 0], 69, 2, none⟩),
(109, ⟨[o 115 0 1, i 3, i 1, i 0, i 0], 46, 0, none⟩),
(112, ⟨[i 0], 3, 0, none⟩),
(115, ⟨[i 12, i 1, i 0, i 0, i 8, f 112 0 1], 29, 6, none⟩),
(120, ⟨[i 1, i 0, i 0, i 0], 69, 2, none⟩),
(121, ⟨[o 126 0 1, i 3, i 1, i 0, i 0], 46, 0, none⟩),
(123, ⟨[i 0, o 20 0 2, f 21 0 1, i 1, o 36 0 2, f 37 0 1, i 1, o 48 0 2, f 49 0 1, i 1, o 60 0 2, f 61 0 1, i 1, o 72 0 2, f 73 0 1, i 1, o 84 0 2, f 85 0 1, i 1, o 96 0 2, f 97 0 1, i 1, o 108 0 2, f 109 0 1, i 1, o 120 0 2, f 121 0 1], 50, 3, none⟩),
(126, ⟨[i 7, i 1, i 0, i 0, i 0, .snil], 29, 6, none⟩),
(170, ⟨[o 274 0 9, o 278 0 9, .snil, .snil, .snil, i 27], 230, 0, none⟩),
(176, ⟨[i 0, i 1], 3, 1, none⟩),
(188, ⟨[i 3, i 4], 3, 1, none⟩),
(200, ⟨[i 6, i 7], 3, 1, none⟩),
(212, ⟨[i 9, i 10], 3, 1, none⟩),
(224, ⟨[i 12, i 13], 3, 1, none⟩),
(236, ⟨[i 15, i 16], 3, 1, none⟩),
(248, ⟨[i 18, i 19], 3, 1, none⟩),
(260, ⟨[i 21, i 22], 3, 1, none⟩),
(272, ⟨[i 24, i 25], 3, 1, none⟩),
(274, ⟨[o 176 0 2, o 188 0 2, o 200 0 2, o 212 0 2, o 224 0 2, o 236 0 2, o 248 0 2, o 260 0 2, o 272 0 2], 27, 1, none⟩),
(278, ⟨[i 2, i 5, i 8, i 11, i 14, i 17, i 20, i 23, i 26], 3, 1, none⟩),
(419, ⟨[o 473 0 27], 233, 0, none⟩),
(473, ⟨[i 0, i 1, i 2, i 3, i 4, i 5, i 6, i 7, i 8, i 9, i 10, i 11, i 12, i 13, i 14, i 15, i 16, i 17, i 18, i 19, i 20, i 21, i 22, i 23, i 24, i 25, i 26], 3, 1, none⟩),
(474, ⟨[.snil, .snil, .snil, .snil, .snil, .snil, .snil, .snil, .snil, .snil, .snil, .snil, .snil, .snil, .snil, .snil, .snil, .snil, .snil, .snil, .snil, .snil, .snil, .snil, .snil, .snil, .snil], 238, 0, none⟩),
(475, ⟨[o 724 0 1], 139, 0, none⟩),
(476, ⟨[], 0, 0, some (.map [(0, .agg [i 2, i 1], .c (.bool true)), (1, .agg [i 4, i 2], .c (.bool true)), (2, .agg [i 6, i 3], .c (.bool true)), (3, .agg [i 8, i 4], .c (.bool true)), (4, .agg [i 10, i 5], .c (.bool true)), (5, .agg [i 12, i 6], .c (.bool true)), (6, .agg [i 14, i 7], .c (.bool true)), (7, .agg [i 16, i 8], .c (.bool true))] 8)⟩),
(477, ⟨[], 0, 0, some (.map [] 0)⟩),
(478, ⟨[.snil, .snil, .map 477, i 0], 237, 0, none⟩),
(479, ⟨[.ptr 12 0, .ptr 170 0, .ptr 419 0, o 716 0 27, o 719 0 27, o 722 0 27, f 474 0 27, .ptr 475 0, .map 476, .ptr 478 0], 145, 0, none⟩),
e 480 139,
e 483 139,
e 486 139,
e 489 139,
e 492 139,
(495, ⟨[o 1071 0 1], 139, 0, none⟩),
e 498 139,
e 501 139,
e 504 139,
e 507 139,
e 510 139,
(513, ⟨[o 1722 0 1], 139, 0, none⟩),
e 516 139,
e 519 139,
e 522 139,
e 525 139,
e 528 139,
e 531 139,
e 534 139,
e 537 139,
(540, ⟨[o 2383 0 1], 139, 0, none⟩),
e 543 139,
e 546 139,
e 549 139,
e 552 139,
e 555 139,
e 558 139,
e 561 139,
e 564 139,
(567, ⟨[o 3054 0 1], 139, 0, none⟩),
e 570 139,
e 573 139,
e 576 139,
e 579 139,
e 582 139,
e 585 139,
e 588 139,
e 591 139,
(594, ⟨[o 3735 0 1], 139, 0, none⟩),
e 597 139,
e 600 139,
e 603 139,
e 606 139,
e 609 139,
e 612 139,
e 615 139,
e 618 139,
(621, ⟨[o 4426 0 1], 139, 0, none⟩),
e 624 139,
e 627 139,
e 630 139,
e 633 139,
e 636 139,
e 639 139,
e 642 139,
e 645 139,
(648, ⟨[o 5127 0 1], 139, 0, none⟩),
e 651 139,
e 654 139,
e 657 139,
e 660 139,
e 663 139,
e 666 139,
e 669 139,
e 672 139,
(675, ⟨[o 5838 0 1], 139, 0, none⟩),
e 678 139,
e 681 139,
e 684 139,
e 687 139,
e 690 139,
e 693 139,
e 696 139,
e 699 139,
e 702 139,
e 705 139,
e 708 139,
e 711 139,
e 714 139,
(716, ⟨[.ptr 480 0, .ptr 489 0, .ptr 498 0, .ptr 507 0, .ptr 516 0, .ptr 525 0, .ptr 534 0, .ptr 543 0, .ptr 552 0, .ptr 561 0, .ptr 570 0, .ptr 579 0, .ptr 588 0, .ptr 597 0, .ptr 606 0, .ptr 615 0, .ptr 624 0, .ptr 633 0, .ptr 642 0, .ptr 651 0, .ptr 660 0, .ptr 669 0, .ptr 678 0, .ptr 687 0, .ptr 696 0, .ptr 705 0, .ptr 714 0], 136, 1, none⟩),
e 717 139,
(719, ⟨[.ptr 483 0, .ptr 492 0, .ptr 501 0, .ptr 510 0, .ptr 519 0, .ptr 528 0, .ptr 537 0, .ptr 546 0, .ptr 555 0, .ptr 564 0, .ptr 573 0, .ptr 582 0, .ptr 591 0, .ptr 600 0, .ptr 609 0, .ptr 618 0, .ptr 627 0, .ptr 636 0, .ptr 645 0, .ptr 654 0, .ptr 663 0, .ptr 672 0, .ptr 681 0, .ptr 690 0, .ptr 699 0, .ptr 708 0, .ptr 717 0], 136, 1, none⟩),
e 720 139,
(722, ⟨[.ptr 486 0, .ptr 495 0, .ptr 504 0, .ptr 513 0, .ptr 522 0, .ptr 531 0, .ptr 540 0, .ptr 549 0, .ptr 558 0, .ptr 567 0, .ptr 576 0, .ptr 585 0, .ptr 594 0, .ptr 603 0, .ptr 612 0, .ptr 621 0, .ptr 630 0, .ptr 639 0, .ptr 648 0, .ptr 657 0, .ptr 666 0, .ptr 675 0, .ptr 684 0, .ptr 693 0, .ptr 702 0, .ptr 711 0, .ptr 720 0], 136, 1, none⟩),
(724, ⟨[.int .u64 (.ofNat 511)], 224, 1, none⟩),
(1071, ⟨[.int .u64 (.ofNat 8)], 224, 1, none⟩),
(1722, ⟨[.int .u64 (.ofNat 64)], 224, 1, none⟩),
(2383, ⟨[.int .u64 (.ofNat 512)], 224, 1, none⟩),
(3054, ⟨[.int .u64 (.ofNat 4096)], 224, 1, none⟩),
(3735, ⟨[.int .u64 (.ofNat 32768)], 224, 1, none⟩),
(4426, ⟨[.int .u64 (.ofNat 262144)], 224, 1, none⟩),
(5127, ⟨[.int .u64 (.ofNat 2097152)], 224, 1, none⟩),
(5838, ⟨[.int .u64 (.ofNat 16777216)], 224, 1, none⟩)]
private noncomputable abbrev l5 : Bls := [(8791, ⟨[], 0, 0, some (.map [(0, .agg [i 1, i 1, i 0, i 0, i 0], .c (o 13147 0 1)), (1, .agg [i 5, i 1, i 0, i 0, i 0], .c (o 13152 0 1)), (2, .agg [i 1, i 2, i 0, i 0, i 0], .c (o 13177 0 1)), (3, .agg [i 2, i 1, i 0, i 0, i 0], .c (o 13207 0 1)), (4, .agg [i 5, i 2, i 0, i 0, i 0], .c (o 13212 0 1)), (5, .agg [i 1, i 4, i 0, i 0, i 0], .c (o 13237 0 1)), (6, .agg [i 2, i 2, i 0, i 0, i 0], .c (o 13267 0 1)), (7, .agg [i 5, i 3, i 0, i 0, i 0], .c (o 13272 0 1)), (8, .agg [i 1, i 6, i 0, i 0, i 0], .c (o 13297 0 1)), (9, .agg [i 2, i 3, i 0, i 0, i 0], .c (o 13327 0 1)), (10, .agg [i 5, i 4, i 0, i 0, i 0], .c (o 13332 0 1)), (11, .agg [i 1, i 8, i 0, i 0, i 0], .c (o 13357 0 1)), (12, .agg [i 2, i 4, i 0, i 0, i 0], .c (o 13387 0 1)), (13, .agg [i 5, i 5, i 0, i 0, i 0], .c (o 13392 0 1)), (14, .agg [i 1, i 10, i 0, i 0, i 0], .c (o 13417 0 1)), (15, .agg [i 2, i 5, i 0, i 0, i 0], .c (o 13447 0 1)), (16, .agg [i 5, i 6, i 0, i 0, i 0], .c (o 13452 0 1)), (17, .agg [i 1, i 12, i 0, i 0, i 0], .c (o 13477 0 1)), (18, .agg [i 2, i 6, i 0, i 0, i 0], .c (o 13507 0 1)), (19, .agg [i 5, i 7, i 0, i 0, i 0], .c (o 13512 0 1)), (20, .agg [i 1, i 14, i 0, i 0, i 0], .c (o 13537 0 1)), (21, .agg [i 2, i 7, i 0, i 0, i 0], .c (o 13567 0 1)), (22, .agg [i 5, i 8, i 0, i 0, i 0], .c (o 13572 0 1)), (23, .agg [i 1, i 16, i 0, i 0, i 0], .c (o 13597 0 1)), (24, .agg [i 1, i 18, i 0, i 0, i 0], .c (o 13633 0 1))] 25)⟩),
(8792, ⟨[.map 8791, .md 1 (.ofNat 0) true], 155, 0, none⟩),
(13147, ⟨[i 2, i 1, i 0, i 0, i 0], 116, 5, none⟩),
(13152, ⟨[i 1, i 2, i 0, i 0, i 0], 116, 5, none⟩),
(13177, ⟨[i 5, i 0, i 0, i 0, i 0], 116, 5, none⟩),
(13207, ⟨[i 2, i 2, i 0, i 0, i 0], 116, 5, none⟩),
(13212, ⟨[i 1, i 4, i 0, i 0, i 0], 116, 5, none⟩),
(13237, ⟨[i 5, i 1, i 0, i 0, i 0], 116, 5, none⟩),
(13267, ⟨[i 2, i 3, i 0, i 0, i 0], 116, 5, none⟩),
(13272, ⟨[i 1, i 6, i 0, i 0, i 0], 116, 5, none⟩),
(13297, ⟨[i 5, i 2, i 0, i 0, i 0], 116, 5, none⟩),
(13327, ⟨[i 2, i 4, i 0, i 0, i 0], 116, 5, none⟩),
(13332, ⟨[i 1, i 8, i 0, i 0, i 0], 116, 5, none⟩),
(13357, ⟨[i 5, i 3, i 0, i 0, i 0], 116, 5, none⟩),
(13387, ⟨[i 2, i 5, i 0, i 0, i 0], 116, 5, none⟩),
(13392, ⟨[i 1, i 10, i 0, i 0, i 0], 116, 5, none⟩),
(13417, ⟨[i 5, i 4, i 0, i 0, i 0], 116, 5, none⟩),
(13447, ⟨[i 2, i 6, i 0, i 0, i 0], 116, 5, none⟩),
(13452, ⟨[i 1, i 12, i 0, i 0, i 0], 116, 5, none⟩),
(13477, ⟨[i 5, i 5, i 0, i 0, i 0], 116, 5, none⟩),
(13507, ⟨[i 2, i 7, i 0, i 0, i 0], 116, 5, none⟩),
(13512, ⟨[i 1, i 14, i 0, i 0, i 0], 116, 5, none⟩),
(13537, ⟨[i 5, i 6, i 0, i 0, i 0], 116, 5, none⟩),
(13567, ⟨[i 2, i 8, i 0, i 0, i 0], 116, 5, none⟩),
(13572, ⟨[i 1, i 16, i 0, i 0, i 0], 116, 5, none⟩),
(13597, ⟨[i 5, i 7, i 0, i 0, i 0], 116, 5, none⟩),
(13633, ⟨[i 5, i 8, i 0, i 0, i 0], 116, 5, none⟩)]
private noncomputable def m0 : MM := ⟨[48], l0, 170, [⟨48, 0, [.v (.c (.ptr 12 0))], .v (.c (.nili))⟩]⟩
private theorem m0_k : H0.tbl m0 = true := by kernel_rfl
private noncomputable def h1 : HK := H0.memo m0 m0_k
private noncomputable def m1 : MM := ⟨[155], l1, 321, [⟨155, 0, [.v (.c (.ptr 12 0)), .v (.c (i 0))], .tup [.agg [i 0, i 0, i 0], .c (.bool true)]⟩,
⟨155, 1, [.v (.c (.ptr 12 0)), .v (.c (i 1))], .tup [.agg [i 0, i 0, i 1], .c (.bool true)]⟩,
⟨155, 2, [.v (.c (.ptr 12 0)), .v (.c (i 2))], .tup [.agg [i 0, i 0, i 2], .c (.bool true)]⟩,
⟨155, 3, [.v (.c (.ptr 12 0)), .v (.c (i 3))], .tup [.agg [i 0, i 0, i 3], .c (.bool true)]⟩,
⟨155, 4, [.v (.c (.ptr 12 0)), .v (.c (i 4))], .tup [.agg [i 1, i 0, i 0], .c (.bool true)]⟩,
⟨155, 5, [.v (.c (.ptr 12 0)), .v (.c (i 5))], .tup [.agg [i 1, i 0, i 1], .c (.bool true)]⟩,
⟨155, 6, [.v (.c (.ptr 12 0)), .v (.c (i 6))], .tup [.agg [i 2, i 0, i 0], .c (.bool true)]⟩,
⟨155, 7, [.v (.c (.ptr 12 0)), .v (.c (i 7))], .tup [.agg [i 2, i 0, i 1], .c (.bool true)]⟩,
⟨155, 8, [.v (.c (.ptr 12 0)), .v (.c (i 8))], .tup [.agg [i 3, i 0, i 0], .c (.bool true)]⟩,
⟨155, 9, [.v (.c (.ptr 12 0)), .v (.c (i 9))], .tup [.agg [i 3, i 0, i 1], .c (.bool true)]⟩,
⟨155, 10, [.v (.c (.ptr 12 0)), .v (.c (i 10))], .tup [.agg [i 4, i 0, i 0], .c (.bool true)]⟩,
⟨155, 11, [.v (.c (.ptr 12 0)), .v (.c (i 11))], .tup [.agg [i 4, i 0, i 1], .c (.bool true)]⟩,
⟨155, 12, [.v (.c (.ptr 12 0)), .v (.c (i 12))], .tup [.agg [i 5, i 0, i 0], .c (.bool true)]⟩,
⟨155, 13, [.v (.c (.ptr 12 0)), .v (.c (i 13))], .tup [.agg [i 5, i 0, i 1], .c (.bool true)]⟩,
⟨155, 14, [.v (.c (.ptr 12 0)), .v (.c (i 14))], .tup [.agg [i 6, i 0, i 0], .c (.bool true)]⟩,
⟨155, 15, [.v (.c (.ptr 12 0)), .v (.c (i 15))], .tup [.agg [i 6, i 0, i 1], .c (.bool true)]⟩,
⟨155, 16, [.v (.c (.ptr 12 0)), .v (.c (i 16))], .tup [.agg [i 7, i 0, i 0], .c (.bool true)]⟩,
⟨155, 17, [.v (.c (.ptr 12 0)), .v (.c (i 17))], .tup [.agg [i 7, i 0, i 1], .c (.bool true)]⟩,
⟨155, 18, [.v (.c (.ptr 12 0)), .v (.c (i 18))], .tup [.agg [i 8, i 0, i 0], .c (.bool true)]⟩,
⟨155, 19, [.v (.c (.ptr 12 0)), .v (.c (i 19))], .tup [.agg [i 8, i 0, i 1], .c (.bool true)]⟩]⟩
private theorem m1_k : h1.tbl m1 = true := by kernel_rfl
private noncomputable def h2 : HK := h1.memo m1 m1_k
private noncomputable def s1 : RE := ⟨76, [.v (.c (.ptr 12 0))], 170, .v (.c (.ptr 170 0)), l2, 419⟩
private theorem s1_k : h2.srp l0 s1 = true := by kernel_rfl
private noncomputable def h3 : HK := h2.srep _ s1 s1_k
private noncomputable def s2 : RE := ⟨87, [.v (.c (.ptr 12 0))], 975, .v (.c (o 1014 0 20)), [(1014, ⟨[i 0, i 0, i 0, i 0, i 0, i 1, i 0, i 0, i 2, i 0, i 0, i 3, i 1, i 0, i 0, i 1, i 0, i 1, i 2, i 0, i 0, i 2, i 0, i 1, i 3, i 0, i 0, i 3, i 0, i 1, i 4, i 0, i 0, i 4, i 0, i 1, i 5, i 0, i 0, i 5, i 0, i 1, i 6, i 0, i 0, i 6, i 0, i 1, i 7, i 0, i 0, i 7, i 0, i 1, i 8, i 0, i 0, i 8, i 0, i 1], 88, 3, none⟩)], 1015⟩
private theorem s2_k : h3.srp l0 s2 = true := by kernel_rfl
private noncomputable def h4 : HK := h3.srep _ s2 s2_k
private noncomputable def s3 : RE := ⟨49, [.v (.c (.ptr 12 0)), .v (.c (.snil))], 170, .v (.c (.ptr 479 0)), l3, 7091⟩
private theorem s3_k : h4.rep l0 s3 = true := by kernel_rfl
private noncomputable def h5 : HK := h4.repl _ s3 s3_k
private noncomputable def s4 : RE := ⟨151, [.v (.c (.ptr 12 0)), .v (.c (.ptr 479 0)), .v (.c (i 2))], 7316, .v (.c (.snil)), [], 7513⟩
private theorem s4_k : h5.srp l4 s4 = true := by kernel_rfl
private noncomputable def h6 : HK := h5.srep _ s4 s4_k
private noncomputable def s5 : RE := ⟨151, [.v (.c (.ptr 12 0)), .v (.c (.ptr 479 0)), .v (.c (i 4))], 7529, .v (.c (.snil)), [], 7717⟩
private theorem s5_k : h6.srp l4 s5 = true := by kernel_rfl
private noncomputable def h7 : HK := h6.srep _ s5 s5_k
private noncomputable def s6 : RE := ⟨151, [.v (.c (.ptr 12 0)), .v (.c (.ptr 479 0)), .v (.c (i 6))], 7733, .v (.c (.snil)), [], 7912⟩
private theorem s6_k : h7.srp l4 s6 = true := by kernel_rfl
private noncomputable def h8 : HK := h7.srep _ s6 s6_k
private noncomputable def s7 : RE := ⟨151, [.v (.c (.ptr 12 0)), .v (.c (.ptr 479 0)), .v (.c (i 8))], 7928, .v (.c (.snil)), [], 8098⟩
private theorem s7_k : h8.srp l4 s7 = true := by kernel_rfl
private noncomputable def h9 : HK := h8.srep _ s7 s7_k
private noncomputable def s8 : RE := ⟨151, [.v (.c (.ptr 12 0)), .v (.c (.ptr 479 0)), .v (.c (i 10))], 8114, .v (.c (.snil)), [], 8275⟩
private theorem s8_k : h9.srp l4 s8 = true := by kernel_rfl
private noncomputable def h10 : HK := h9.srep _ s8 s8_k
private noncomputable def s9 : RE := ⟨151, [.v (.c (.ptr 12 0)), .v (.c (.ptr 479 0)), .v (.c (i 12))], 8291, .v (.c (.snil)), [], 8443⟩
private theorem s9_k : h10.srp l4 s9 = true := by kernel_rfl
private noncomputable def h11 : HK := h10.srep _ s9 s9_k
private noncomputable def s10 : RE := ⟨151, [.v (.c (.ptr 12 0)), .v (.c (.ptr 479 0)), .v (.c (i 14))], 8459, .v (.c (.snil)), [], 8602⟩
private theorem s10_k : h11.srp l4 s10 = true := by kernel_rfl
private noncomputable def h12 : HK := h11.srep _ s10 s10_k
private noncomputable def s11 : RE := ⟨151, [.v (.c (.ptr 12 0)), .v (.c (.ptr 479 0)), .v (.c (i 16))], 8618, .v (.c (.snil)), [], 8752⟩
private theorem s11_k : h12.srp l4 s11 = true := by kernel_rfl
private noncomputable def h13 : HK := h12.srep _ s11 s11_k
private noncomputable def s12 : RE := ⟨85, [.v (.c (.ptr 12 0)), .v (.c (.ptr 479 0)), .v (.c (i 0))], 8794, .v (.c (.snil)), [], 9195⟩
private theorem s12_k : h13.srp l4 s12 = true := by kernel_rfl
private noncomputable def h14 : HK := h13.srep _ s12 s12_k
private noncomputable def s13 : RE := ⟨86, [.v (.c (.ptr 12 0)), .v (.c (.ptr 479 0)), .v (.c (i 0))], 9197, .v (.c (.snil)), [], 9395⟩
private theorem s13_k : h14.srp l4 s13 = true := by kernel_rfl
private noncomputable def h15 : HK := h14.srep _ s13 s13_k
private noncomputable def s14 : RE := ⟨85, [.v (.c (.ptr 12 0)), .v (.c (.ptr 479 0)), .v (.c (i 1))], 9397, .v (.c (.snil)), [], 9764⟩
private theorem s14_k : h15.srp l4 s14 = true := by kernel_rfl
private noncomputable def h16 : HK := h15.srep _ s14 s14_k
private noncomputable def s15 : RE := ⟨86, [.v (.c (.ptr 12 0)), .v (.c (.ptr 479 0)), .v (.c (i 1))], 9766, .v (.c (.snil)), [], 9947⟩
private theorem s15_k : h16.srp l4 s15 = true := by kernel_rfl
private noncomputable def h17 : HK := h16.srep _ s15 s15_k
private noncomputable def s16 : RE := ⟨85, [.v (.c (.ptr 12 0)), .v (.c (.ptr 479 0)), .v (.c (i 2))], 9949, .v (.c (.snil)), [], 10298⟩
private theorem s16_k : h17.srp l4 s16 = true := by kernel_rfl
private noncomputable def h18 : HK := h17.srep _ s16 s16_k
private noncomputable def s17 : RE := ⟨86, [.v (.c (.ptr 12 0)), .v (.c (.ptr 479 0)), .v (.c (i 2))], 10300, .v (.c (.snil)), [], 10472⟩
private theorem s17_k : h18.srp l4 s17 = true := by kernel_rfl
private noncomputable def h19 : HK := h18.srep _ s17 s17_k
private noncomputable def s18 : RE := ⟨85, [.v (.c (.ptr 12 0)), .v (.c (.ptr 479 0)), .v (.c (i 3))], 10474, .v (.c (.snil)), [], 10805⟩
private theorem s18_k : h19.srp l4 s18 = true := by kernel_rfl
private noncomputable def h20 : HK := h19.srep _ s18 s18_k
private noncomputable def s19 : RE := ⟨86, [.v (.c (.ptr 12 0)), .v (.c (.ptr 479 0)), .v (.c (i 3))], 10807, .v (.c (.snil)), [], 10970⟩
private theorem s19_k : h20.srp l4 s19 = true := by kernel_rfl
private noncomputable def h21 : HK := h20.srep _ s19 s19_k
private noncomputable def s20 : RE := ⟨85, [.v (.c (.ptr 12 0)), .v (.c (.ptr 479 0)), .v (.c (i 4))], 10972, .v (.c (.snil)), [], 11285⟩
private theorem s20_k : h21.srp l4 s20 = true := by kernel_rfl
private noncomputable def h22 : HK := h21.srep _ s20 s20_k
private noncomputable def s21 : RE := ⟨86, [.v (.c (.ptr 12 0)), .v (.c (.ptr 479 0)), .v (.c (i 4))], 11287, .v (.c (.snil)), [], 11441⟩
private theorem s21_k : h22.srp l4 s21 = true := by kernel_rfl
private noncomputable def h23 : HK := h22.srep _ s21 s21_k
private noncomputable def s22 : RE := ⟨85, [.v (.c (.ptr 12 0)), .v (.c (.ptr 479 0)), .v (.c (i 5))], 11443, .v (.c (.snil)), [], 11738⟩
private theorem s22_k : h23.srp l4 s22 = true := by kernel_rfl
private noncomputable def h24 : HK := h23.srep _ s22 s22_k
private noncomputable def s23 : RE := ⟨86, [.v (.c (.ptr 12 0)), .v (.c (.ptr 479 0)), .v (.c (i 5))], 11740, .v (.c (.snil)), [], 11885⟩
private theorem s23_k : h24.srp l4 s23 = true := by kernel_rfl
private noncomputable def h25 : HK := h24.srep _ s23 s23_k
private noncomputable def s24 : RE := ⟨85, [.v (.c (.ptr 12 0)), .v (.c (.ptr 479 0)), .v (.c (i 6))], 11887, .v (.c (.snil)), [], 12164⟩
private theorem s24_k : h25.srp l4 s24 = true := by kernel_rfl
private noncomputable def h26 : HK := h25.srep _ s24 s24_k
private noncomputable def s25 : RE := ⟨86, [.v (.c (.ptr 12 0)), .v (.c (.ptr 479 0)), .v (.c (i 6))], 12166, .v (.c (.snil)), [], 12302⟩
private theorem s25_k : h26.srp l4 s25 = true := by kernel_rfl
private noncomputable def h27 : HK := h26.srep _ s25 s25_k
private noncomputable def s26 : RE := ⟨85, [.v (.c (.ptr 12 0)), .v (.c (.ptr 479 0)), .v (.c (i 7))], 12304, .v (.c (.snil)), [], 12563⟩
private theorem s26_k : h27.srp l4 s26 = true := by kernel_rfl
private noncomputable def h28 : HK := h27.srep _ s26 s26_k
private noncomputable def s27 : RE := ⟨86, [.v (.c (.ptr 12 0)), .v (.c (.ptr 479 0)), .v (.c (i 7))], 12565, .v (.c (.snil)), [], 12692⟩
private theorem s27_k : h28.srp l4 s27 = true := by kernel_rfl
private noncomputable def h29 : HK := h28.srep _ s27 s27_k
private noncomputable def s28 : RE := ⟨85, [.v (.c (.ptr 12 0)), .v (.c (.ptr 479 0)), .v (.c (i 8))], 12694, .v (.c (.snil)), [], 12935⟩
private theorem s28_k : h29.srp l4 s28 = true := by kernel_rfl
private noncomputable def h30 : HK := h29.srep _ s28 s28_k
private noncomputable def s29 : RE := ⟨86, [.v (.c (.ptr 12 0)), .v (.c (.ptr 479 0)), .v (.c (i 8))], 12937, .v (.c (.snil)), [], 13055⟩
private theorem s29_k : h30.srp l4 s29 = true := by kernel_rfl
private noncomputable def h31 : HK := h30.srep _ s29 s29_k
private noncomputable def s30 : RE := ⟨50, [.v (.c (.ptr 12 0)), .v (.c (.ptr 479 0))], 7091, .v (.c (.ptr 8792 0)), l5, 13635⟩
private theorem s30_k : h31.rep l4 s30 = true := by kernel_rfl
private noncomputable def h32 : HK := h31.repl _ s30 s30_k
theorem TopNilParam_7_t_run : isBool true (runW h32.K 12 [mi 8 7, ab true] s0) = true := by kernel_rfl
theorem TopNilParam_7_t_law {args : Array Value} (ha : VAs (fun _ => none) [mi 8 7, ab true] args.toList) (w : World) (hT : Tab w) :
    Calls Tryz.prog 12 args w fun e w' => Below w.heap.size w w' ∧ e = .returned (.bool true) := h32.law TopNilParam_7_t_run ha w hT
end Go.Proofs.YteajpblmbmncdaaGreatDoor
