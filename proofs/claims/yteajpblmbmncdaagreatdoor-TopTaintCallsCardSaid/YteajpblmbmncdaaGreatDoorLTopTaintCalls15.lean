/- Tables of calls, and a run that uses them. -/
import Derived.Test.YteajpblmbmncdaaGreatDoorLn
namespace Go.Proofs.YteajpblmbmncdaaGreatDoor
open Go Go.RowKit Ev
set_option maxRecDepth 100000
set_option linter.unusedVariables false
private noncomputable abbrev i (n : Nat) : CV := .int .i64 (.ofNat n)
private noncomputable abbrev o (b a n : Nat) : CV := .slice b a n (.opn 0)
private noncomputable abbrev f (b a n : Nat) : CV := .slice b a n (.fix n)
private noncomputable abbrev e (k t : Nat) : Nat × BK := (k, ⟨[.snil], t, 0, none⟩)
private noncomputable abbrev l0 : Bls := [(1, ⟨[i 0, i 0, i 0, i 0, i 1, i 0], 69, 0, none⟩),
(2, ⟨[f 1 0 3], 47, 0, none⟩),
(4, ⟨[i 1, i 0], 69, 0, none⟩),
(5, ⟨[i 0, i 0], 69, 0, none⟩),
(7, ⟨[i 1, i 0], 69, 0, none⟩),
(9, ⟨[.snil, i 0, i 0, f 4 0 1, i 0, i 0, f 5 0 1, i 0, i 0, f 7 0 1, i 1, i 0], 72, 0, none⟩),
(10, ⟨[i 0], 3, 0, none⟩),
(11, ⟨[f 10 0 1], 74, 0, none⟩),
(12, ⟨[f 2 0 1, f 9 0 4, f 11 0 1, .snil, o 121 0 9, i 0], 57, 0, none⟩),
(19, ⟨[i 0, i 0, i 0, i 0], 69, 2, none⟩),
(20, ⟨[o 29 0 3, i 3, i 0, i 0, i 0], 46, 0, none⟩),
(25, ⟨[i 0], 3, 0, none⟩),
(29, ⟨[i 3, i 0, i 0, i 0, i 0, .snil, i 12, i 1, i 0, i 0, i 1, f 25 0 1, i 15, i 0, i 1, i 0, i 0, .snil], 29, 6, none⟩),
(34, ⟨[i 0, i 0, i 0, i 0], 69, 2, none⟩),
(35, ⟨[o 41 0 1, i 3, i 0, i 0, i 0], 46, 0, none⟩),
(38, ⟨[i 0], 3, 0, none⟩),
(41, ⟨[i 12, i 0, i 0, i 0, i 2, f 38 0 1], 29, 6, none⟩),
(46, ⟨[i 0, i 0, i 0, i 0], 69, 2, none⟩),
(47, ⟨[o 53 0 1, i 3, i 0, i 0, i 0], 46, 0, none⟩),
(50, ⟨[i 0], 3, 0, none⟩),
(53, ⟨[i 12, i 0, i 0, i 0, i 3, f 50 0 1], 29, 6, none⟩),
(58, ⟨[i 0, i 0, i 0, i 0], 69, 2, none⟩),
(59, ⟨[o 65 0 1, i 3, i 0, i 0, i 0], 46, 0, none⟩),
(62, ⟨[i 0], 3, 0, none⟩),
(65, ⟨[i 12, i 0, i 0, i 0, i 4, f 62 0 1], 29, 6, none⟩),
(70, ⟨[i 0, i 0, i 0, i 0], 69, 2, none⟩),
(71, ⟨[o 77 0 1, i 3, i 0, i 0, i 0], 46, 0, none⟩),
(74, ⟨[i 0], 3, 0, none⟩),
(77, ⟨[i 12, i 0, i 0, i 0, i 5, f 74 0 1], 29, 6, none⟩),
(82, ⟨[i 0, i 0, i 0, i 0], 69, 2, none⟩),
(83, ⟨[o 89 0 1, i 3, i 0, i 0, i 0], 46, 0, none⟩),
(86, ⟨[i 0], 3, 0, none⟩),
(89, ⟨[i 12, i 0, i 0, i 0, i 6, f 86 0 1], 29, 6, none⟩),
(94, ⟨[i 0, i 0, i 0, i 0], 69, 2, none⟩),
(95, ⟨[o 101 0 1, i 3, i 0, i 0, i 0], 46, 0, none⟩),
(98, ⟨[i 0], 3, 0, none⟩),
(101, ⟨[i 12, i 0, i 0, i 0, i 7, f 98 0 1], 29, 6, none⟩),
(106, ⟨[i 0, i 0, i 0, i 0], 69, 2, none⟩),
(107, ⟨[o 113 0 1, i 3, i 0, i 0, i 0], 46, 0, none⟩),
(110, ⟨[i 0], 3, 0, none⟩),
(113, ⟨[i 12, i 0, i 0, i 0, i 8, f 110 0 1], 29, 6, none⟩),
(118, ⟨[i 0, i 0, i 0, i 0], 69, 2, none⟩),
(119, ⟨[.snil, i 3, i 0, i 0, i 0], 46, 0, none⟩),
(121, ⟨[i 0, o 19 0 2, f 20 0 1, i 2, o 34 0 2, f 35 0 1, i 2, o 46 0 2, f 47 0 1, i 2, o 58 0 2, f 59 0 1, i 2, o 70 0 2, f 71 0 1, i 2, o 82 0 2, f 83 0 1, i 2, o 94 0 2, f 95 0 1, i 2, o 106 0 2, f 107 0 1, i 2, o 118 0 2, f 119 0 1], 50, 3, none⟩)]
private noncomputable abbrev l1 : Bls := [(12, ⟨[f 2 0 1, f 9 0 4, f 11 0 1, .snil, o 121 0 9, i 0], 57, 0, none⟩),
(20, ⟨[o 29 0 3, i 3, i 0, i 0, i 0], 46, 0, none⟩),
(35, ⟨[o 41 0 1, i 3, i 0, i 0, i 0], 46, 0, none⟩),
(47, ⟨[o 53 0 1, i 3, i 0, i 0, i 0], 46, 0, none⟩),
(59, ⟨[o 65 0 1, i 3, i 0, i 0, i 0], 46, 0, none⟩),
(71, ⟨[o 77 0 1, i 3, i 0, i 0, i 0], 46, 0, none⟩),
(83, ⟨[o 89 0 1, i 3, i 0, i 0, i 0], 46, 0, none⟩),
(95, ⟨[o 101 0 1, i 3, i 0, i 0, i 0], 46, 0, none⟩),
(107, ⟨[o 113 0 1, i 3, i 0, i 0, i 0], 46, 0, none⟩),
(119, ⟨[.snil, i 3, i 0, i 0, i 0], 46, 0, none⟩),
(121, ⟨[i 0, o 19 0 2, f 20 0 1, i 2, o 34 0 2, f 35 0 1, i 2, o 46 0 2, f 47 0 1, i 2, o 58 0 2, f 59 0 1, i 2, o 70 0 2, f 71 0 1, i 2, o 82 0 2, f 83 0 1, i 2, o 94 0 2, f 95 0 1, i 2, o 106 0 2, f 107 0 1, i 2, o 118 0 2, f 119 0 1], 50, 3, none⟩)]
private noncomputable abbrev l2 : Bls := [(123, ⟨[o 227 0 9, o 231 0 9, .snil, .snil, .snil, i 27], 230, 0, none⟩),
(129, ⟨[i 0, i 1], 3, 1, none⟩),
(141, ⟨[i 3, i 4], 3, 1, none⟩),
(153, ⟨[i 6, i 7], 3, 1, none⟩),
(165, ⟨[i 9, i 10], 3, 1, none⟩),
(177, ⟨[i 12, i 13], 3, 1, none⟩),
(189, ⟨[i 15, i 16], 3, 1, none⟩),
(201, ⟨[i 18, i 19], 3, 1, none⟩),
(213, ⟨[i 21, i 22], 3, 1, none⟩),
(225, ⟨[i 24, i 25], 3, 1, none⟩),
(227, ⟨[o 129 0 2, o 141 0 2, o 153 0 2, o 165 0 2, o 177 0 2, o 189 0 2, o 201 0 2, o 213 0 2, o 225 0 2], 27, 1, none⟩),
(231, ⟨[i 2, i 5, i 8, i 11, i 14, i 17, i 20, i 23, i 26], 3, 1, none⟩)]
private noncomputable abbrev l3 : Bls := [(123, ⟨[o 227 0 9, o 231 0 9, .snil, .snil, .snil, i 27], 230, 0, none⟩),
(129, ⟨[i 0, i 1], 3, 1, none⟩),
(141, ⟨[i 3, i 4], 3, 1, none⟩),
(153, ⟨[i 6, i 7], 3, 1, none⟩),
(165, ⟨[i 9, i 10], 3, 1, none⟩),
(177, ⟨[i 12, i 13], 3, 1, none⟩),
(189, ⟨[i 15, i 16], 3, 1, none⟩),
(201, ⟨[i 18, i 19], 3, 1, none⟩),
(213, ⟨[i 21, i 22], 3, 1, none⟩),
(225, ⟨[i 24, i 25], 3, 1, none⟩),
(227, ⟨[o 129 0 2, o 141 0 2, o 153 0 2, o 165 0 2, o 177 0 2, o 189 0 2, o 201 0 2, o 213 0 2, o 225 0 2], 27, 1, none⟩),
(231, ⟨[i 2, i 5, i 8, i 11, i 14, i 17, i 20, i 23, i 26], 3, 1, none⟩),
(365, ⟨[o 419 0 27], 233, 0, none⟩),
(419, ⟨[i 0, i 1, i 2, i 3, i 4, i 5, i 6, i 7, i 8, i 9, i 10, i 11, i 12, i 13, i 14, i 15, i 16, i 17, i 18, i 19, i 20, i 21, i 22, i 23, i 24, i 25, i 26], 3, 1, none⟩),
(420, ⟨[.snil, .snil, .snil, .snil, .snil, .snil, .snil, .snil, .snil, .snil, .snil, .snil, .snil, .snil, .snil, .snil, .snil, .snil, .snil, .snil, .snil, .snil, .snil, .snil, .snil, .snil, .snil], 238, 0, none⟩),
(421, ⟨[o 670 0 1], 139, 0, none⟩),
(422, ⟨[], 0, 0, some (.map [(0, .agg [i 1, i 1], .c (.bool true)), (1, .agg [i 4, i 2], .c (.bool true)), (2, .agg [i 6, i 3], .c (.bool true)), (3, .agg [i 8, i 4], .c (.bool true)), (4, .agg [i 10, i 5], .c (.bool true)), (5, .agg [i 12, i 6], .c (.bool true)), (6, .agg [i 14, i 7], .c (.bool true)), (7, .agg [i 16, i 8], .c (.bool true))] 8)⟩),
(423, ⟨[], 0, 0, some (.map [] 0)⟩),
(424, ⟨[.snil, .snil, .map 423, i 0], 237, 0, none⟩),
(425, ⟨[.ptr 12 0, .ptr 123 0, .ptr 365 0, o 662 0 27, o 665 0 27, o 668 0 27, f 420 0 27, .ptr 421 0, .map 422, .ptr 424 0], 145, 0, none⟩),
e 426 139,
e 429 139,
e 432 139,
e 435 139,
e 438 139,
e 441 139,
e 444 139,
e 447 139,
e 450 139,
e 453 139,
e 456 139,
e 459 139,
e 462 139,
e 465 139,
e 468 139,
e 471 139,
e 474 139,
e 477 139,
e 480 139,
e 483 139,
e 486 139,
e 489 139,
e 492 139,
e 495 139,
e 498 139,
e 501 139,
e 504 139,
e 507 139,
e 510 139,
e 513 139,
e 516 139,
e 519 139,
e 522 139,
e 525 139,
e 528 139,
e 531 139,
e 534 139,
e 537 139,
e 540 139,
e 543 139,
e 546 139,
e 549 139,
e 552 139,
e 555 139,
e 558 139,
e 561 139,
e 564 139,
e 567 139,
e 570 139,
e 573 139,
e 576 139,
e 579 139,
e 582 139,
e 585 139,
e 588 139,
e 591 139,
e 594 139,
e 597 139,
e 600 139,
e 603 139,
e 606 139,
e 609 139,
e 612 139,
e 615 139,
e 618 139,
e 621 139,
e 624 139,
e 627 139,
e 630 139,
e 633 139,
e 636 139,
e 639 139,
e 642 139,
e 645 139,
e 648 139,
e 651 139,
e 654 139,
e 657 139,
e 660 139,
(662, ⟨[.ptr 426 0, .ptr 435 0, .ptr 444 0, .ptr 453 0, .ptr 462 0, .ptr 471 0, .ptr 480 0, .ptr 489 0, .ptr 498 0, .ptr 507 0, .ptr 516 0, .ptr 525 0, .ptr 534 0, .ptr 543 0, .ptr 552 0, .ptr 561 0, .ptr 570 0, .ptr 579 0, .ptr 588 0, .ptr 597 0, .ptr 606 0, .ptr 615 0, .ptr 624 0, .ptr 633 0, .ptr 642 0, .ptr 651 0, .ptr 660 0], 136, 1, none⟩),
e 663 139,
(665, ⟨[.ptr 429 0, .ptr 438 0, .ptr 447 0, .ptr 456 0, .ptr 465 0, .ptr 474 0, .ptr 483 0, .ptr 492 0, .ptr 501 0, .ptr 510 0, .ptr 519 0, .ptr 528 0, .ptr 537 0, .ptr 546 0, .ptr 555 0, .ptr 564 0, .ptr 573 0, .ptr 582 0, .ptr 591 0, .ptr 600 0, .ptr 609 0, .ptr 618 0, .ptr 627 0, .ptr 636 0, .ptr 645 0, .ptr 654 0, .ptr 663 0], 136, 1, none⟩),
e 666 139,
(668, ⟨[.ptr 432 0, .ptr 441 0, .ptr 450 0, .ptr 459 0, .ptr 468 0, .ptr 477 0, .ptr 486 0, .ptr 495 0, .ptr 504 0, .ptr 513 0, .ptr 522 0, .ptr 531 0, .ptr 540 0, .ptr 549 0, .ptr 558 0, .ptr 567 0, .ptr 576 0, .ptr 585 0, .ptr 594 0, .ptr 603 0, .ptr 612 0, .ptr 621 0, .ptr 630 0, .ptr 639 0, .ptr 648 0, .ptr 657 0, .ptr 666 0], 136, 1, none⟩),
(670, ⟨[.int .u64 (.ofNat 511)], 224, 1, none⟩)]
private noncomputable abbrev l4 : Bls := [(1, ⟨[i 0, i 0, i 0, i 0, i 1, i 0], 69, 0, none⟩),
(2, ⟨[f 1 0 3], 47, 0, none⟩),
(4, ⟨[i 1, i 0], 69, 0, none⟩),
(5, ⟨[i 0, i 0], 69, 0, none⟩),
(7, ⟨[i 1, i 0], 69, 0, none⟩),
(9, ⟨[.snil, i 0, i 0, f 4 0 1, i 0, i 0, f 5 0 1, i 0, i 0, f 7 0 1, i 1, i 0], 72, 0, none⟩),
(10, ⟨[i 0], 3, 0, none⟩),
(11, ⟨[f 10 0 1], 74, 0, none⟩),
(12, ⟨[f 2 0 1, f 9 0 4, f 11 0 1, .snil, o 121 0 9, i 0], 57, 0, none⟩),
(19, ⟨[i 0, i 0, i 0, i 0], 69, 2, none⟩),
(20, ⟨[o 29 0 3, i 3, i 0, i 0, i 0], 46, 0, none⟩),
(25, ⟨[i 0], 3, 0, none⟩),
(29, ⟨[i 3, i 0, i 0, i 0, i 0, .snil, i 12, i 1, i 0, i 0, i 1, f 25 0 1, i 15, i 0, i 1, i 0, i 0, .snil], 29, 6, none⟩),
(34, ⟨[i 0, i 0, i 0, i 0], 69, 2, none⟩),
(35, ⟨[o 41 0 1, i 3, i 0, i 0, i 0], 46, 0, none⟩),
(38, ⟨[i 0], 3, 0, none⟩),
(41, ⟨[i 12, i 0, i 0, i 0, i 2, f 38 0 1], 29, 6, none⟩),
(46, ⟨[i 0, i 0, i 0, i 0], 69, 2, none⟩),
(47, ⟨[o 53 0 1, i 3, i 0, i 0, i 0], 46, 0, none⟩),
(50, ⟨[i 0], 3, 0, none⟩),
(53, ⟨[i 12, i 0, i 0, i 0, i 3, f 50 0 1], 29, 6, none⟩),
(58, ⟨[i 0, i 0, i 0, i 0], 69, 2, none⟩),
(59, ⟨[o 65 0 1, i 3, i 0, i 0, i 0], 46, 0, none⟩),
(62, ⟨[i 0], 3, 0, none⟩),
(65, ⟨[i 12, i 0, i 0, i 0, i 4, f 62 0 1], 29, 6, none⟩),
(70, ⟨[i 0, i 0, i 0, i 0], 69, 2, none⟩),
(71, ⟨[o 77 0 1, i 3, i 0, i 0, i 0], 46, 0, none⟩),
(74, ⟨[i 0], 3, 0, none⟩),
(77, ⟨[i 12, i 0, i 0, i 0, i 5, f 74 0 1], 29, 6, none⟩),
(82, ⟨[i 0, i 0, i 0, i 0], 69, 2, none⟩),
(83, ⟨[o 89 0 1, i 3, i 0, i 0, i 0], 46, 0, none⟩),
(86, ⟨[i 0], 3, 0, none⟩),
(89, ⟨[i 12, i 0, i 0, i 0, i 6, f 86 0 1], 29, 6, none⟩),
(94, ⟨[i 0, i 0, i 0, i 0], 69, 2, none⟩),
(95, ⟨[o 101 0 1, i 3, i 0, i 0, i 0], 46, 0, none⟩),
(98, ⟨[i 0], 3, 0, none⟩),
(101, ⟨[i 12, i 0, i 0, i 0, i 7, f 98 0 1], 29, 6, none⟩),
(106, ⟨[i 0, i 0, i 0, i 0], 69, 2, none⟩),
(107, ⟨[o 113 0 1, i 3, i 0, i 0, i 0], 46, 0, none⟩),
(110, ⟨[i 0], 3, 0, none⟩),
(113, ⟨[i 12, i 0, i 0, i 0, i 8, f 110 0 1], 29, 6, none⟩),
(118, ⟨[i 0, i 0, i 0, i 0], 69, 2, none⟩),
(119, ⟨[.snil, i 3, i 0, i 0, i 0], 46, 0, none⟩),
(121, ⟨[i 0, o 19 0 2, f 20 0 1, i 2, o 34 0 2, f 35 0 1, i 2, o 46 0 2, f 47 0 1, i 2, o 58 0 2, f 59 0 1, i 2, o 70 0 2, f 71 0 1, i 2, o 82 0 2, f 83 0 1, i 2, o 94 0 2, f 95 0 1, i 2, o 106 0 2, f 107 0 1, i 2, o 118 0 2, f 119 0 1], 50, 3, none⟩),
(123, ⟨[o 227 0 9, o 231 0 9, .snil, .snil, .snil, i 27], 230, 0, none⟩),
(129, ⟨[i 0, i 1], 3, 1, none⟩),
(141, ⟨[i 3, i 4], 3, 1, none⟩),
(153, ⟨[i 6, i 7], 3, 1, none⟩),
(165, ⟨[i 9, i 10], 3, 1, none⟩),
(177, ⟨[i 12, i 13], 3, 1, none⟩),
(189, ⟨[i 15, i 16], 3, 1, none⟩),
(201, ⟨[i 18, i 19], 3, 1, none⟩),
(213, ⟨[i 21, i 22], 3, 1, none⟩),
(225, ⟨[i 24, i 25], 3, 1, none⟩),
(227, ⟨[o 129 0 2, o 141 0 2, o 153 0 2, o 165 0 2, o 177 0 2, o 189 0 2, o 201 0 2, o 213 0 2, o 225 0 2], 27, 1, none⟩),
(231, ⟨[i 2, i 5, i 8, i 11, i 14, i 17, i 20, i 23, i 26], 3, 1, none⟩),
(365, ⟨[o 419 0 27], 233, 0, none⟩),
(419, ⟨[i 0, i 1, i 2, i 3, i 4, i 5, i 6, i 7, i 8, i 9, i 10, i 11, i 12, i 13, i 14, i 15, i 16, i 17, i 18, i 19, i 20, i 21, i 22, i 23, i 24, i 25, i 26], 3, 1, none⟩),
(420, ⟨[.snil, .snil, .snil, .snil, .snil, .snil, .snil, .snil, .snil, .snil, .snil, .snil, .snil, .snil, .snil, .snil, .snil, .snil, .snil, .snil, .snil, .snil, .snil, .snil, .snil, .snil, .snil], 238, 0, none⟩),
(421, ⟨[o 670 0 1], 139, 0, none⟩),
(422, ⟨[], 0, 0, some (.map [(0, .agg [i 1, i 1], .c (.bool true)), (1, .agg [i 4, i 2], .c (.bool true)), (2, .agg [i 6, i 3], .c (.bool true)), (3, .agg [i 8, i 4], .c (.bool true)), (4, .agg [i 10, i 5], .c (.bool true)), (5, .agg [i 12, i 6], .c (.bool true)), (6, .agg [i 14, i 7], .c (.bool true)), (7, .agg [i 16, i 8], .c (.bool true))] 8)⟩),
(423, ⟨[], 0, 0, some (.map [] 0)⟩),
(424, ⟨[.snil, .snil, .map 423, i 0], 237, 0, none⟩),
(425, ⟨[.ptr 12 0, .ptr 123 0, .ptr 365 0, o 662 0 27, o 665 0 27, o 668 0 27, f 420 0 27, .ptr 421 0, .map 422, .ptr 424 0], 145, 0, none⟩),
e 426 139,
e 429 139,
e 432 139,
e 435 139,
e 438 139,
e 441 139,
e 444 139,
e 447 139,
e 450 139,
e 453 139,
e 456 139,
e 459 139,
e 462 139,
e 465 139,
e 468 139,
e 471 139,
e 474 139,
e 477 139,
e 480 139,
e 483 139,
e 486 139,
e 489 139,
e 492 139,
e 495 139,
e 498 139,
e 501 139,
e 504 139,
e 507 139,
e 510 139,
e 513 139,
e 516 139,
e 519 139,
e 522 139,
e 525 139,
e 528 139,
e 531 139,
e 534 139,
e 537 139,
e 540 139,
e 543 139,
e 546 139,
e 549 139,
e 552 139,
e 555 139,
e 558 139,
e 561 139,
e 564 139,
e 567 139,
e 570 139,
e 573 139,
e 576 139,
e 579 139,
e 582 139,
e 585 139,
e 588 139,
e 591 139,
e 594 139,
e 597 139,
e 600 139,
e 603 139,
e 606 139,
e 609 139,
e 612 139,
e 615 139,
e 618 139,
e 621 139,
e 624 139,
e 627 139,
e 630 139,
e 633 139,
e 636 139,
e 639 139,
e 642 139,
e 645 139,
e 648 139,
e 651 139,
e 654 139,
e 657 139,
e 660 139,
(662, ⟨[.ptr 426 0, .ptr 435 0, .ptr 444 0, .ptr 453 0, .ptr 462 0, .ptr 471 0, .ptr 480 0, .ptr 489 0, .ptr 498 0, .ptr 507 0, .ptr 516 0, .ptr 525 0, .ptr 534 0, .ptr 543 0, .ptr 552 0, .ptr 561 0, .ptr 570 0, .ptr 579 0, .ptr 588 0, .ptr 597 0, .ptr 606 0, .ptr 615 0, .ptr 624 0, .ptr 633 0, .ptr 642 0, .ptr 651 0, .ptr 660 0], 136, 1, none⟩),
e 663 139,
(665, ⟨[.ptr 429 0, .ptr 438 0, .ptr 447 0, .ptr 456 0, .ptr 465 0, .ptr 474 0, .ptr 483 0, .ptr 492 0, .ptr 501 0, .ptr 510 0, .ptr 519 0, .ptr 528 0, .ptr 537 0, .ptr 546 0, .ptr 555 0, .ptr 564 0, .ptr 573 0, .ptr 582 0, .ptr 591 0, .ptr 600 0, .ptr 609 0, .ptr 618 0, .ptr 627 0, .ptr 636 0, .ptr 645 0, .ptr 654 0, .ptr 663 0], 136, 1, none⟩),
e 666 139,
(668, ⟨[.ptr 432 0, .ptr 441 0, .ptr 450 0, .ptr 459 0, .ptr 468 0, .ptr 477 0, .ptr 486 0, .ptr 495 0, .ptr 504 0, .ptr 513 0, .ptr 522 0, .ptr 531 0, .ptr 540 0, .ptr 549 0, .ptr 558 0, .ptr 567 0, .ptr 576 0, .ptr 585 0, .ptr 594 0, .ptr 603 0, .ptr 612 0, .ptr 621 0, .ptr 630 0, .ptr 639 0, .ptr 648 0, .ptr 657 0, .ptr 666 0], 136, 1, none⟩),
(670, ⟨[.int .u64 (.ofNat 511)], 224, 1, none⟩)]
private noncomputable abbrev l5 : Bls := [(8364, ⟨[], 0, 0, some (.map [(0, .agg [i 1, i 0, i 0, i 0, i 0], .c (o 12528 0 2)), (1, .agg [i 5, i 1, i 0, i 0, i 0], .c (o 12482 0 1)), (2, .agg [i 2, i 1, i 0, i 0, i 0], .c (o 12558 0 1)), (3, .agg [i 5, i 2, i 0, i 0, i 0], .c (o 12563 0 1)), (4, .agg [i 1, i 4, i 0, i 0, i 0], .c (o 12588 0 1)), (5, .agg [i 2, i 2, i 0, i 0, i 0], .c (o 12618 0 1)), (6, .agg [i 5, i 3, i 0, i 0, i 0], .c (o 12623 0 1)), (7, .agg [i 1, i 6, i 0, i 0, i 0], .c (o 12648 0 1)), (8, .agg [i 2, i 3, i 0, i 0, i 0], .c (o 12678 0 1)), (9, .agg [i 5, i 4, i 0, i 0, i 0], .c (o 12683 0 1)), (10, .agg [i 1, i 8, i 0, i 0, i 0], .c (o 12708 0 1)), (11, .agg [i 2, i 4, i 0, i 0, i 0], .c (o 12738 0 1)), (12, .agg [i 5, i 5, i 0, i 0, i 0], .c (o 12743 0 1)), (13, .agg [i 1, i 10, i 0, i 0, i 0], .c (o 12768 0 1)), (14, .agg [i 2, i 5, i 0, i 0, i 0], .c (o 12798 0 1)), (15, .agg [i 5, i 6, i 0, i 0, i 0], .c (o 12803 0 1)), (16, .agg [i 1, i 12, i 0, i 0, i 0], .c (o 12828 0 1)), (17, .agg [i 2, i 6, i 0, i 0, i 0], .c (o 12858 0 1)), (18, .agg [i 5, i 7, i 0, i 0, i 0], .c (o 12863 0 1)), (19, .agg [i 1, i 14, i 0, i 0, i 0], .c (o 12888 0 1)), (20, .agg [i 2, i 7, i 0, i 0, i 0], .c (o 12918 0 1)), (21, .agg [i 5, i 8, i 0, i 0, i 0], .c (o 12923 0 1)), (22, .agg [i 1, i 16, i 0, i 0, i 0], .c (o 12948 0 1)), (23, .agg [i 2, i 8, i 0, i 0, i 0], .c (o 12965 0 1))] 24)⟩),
(8365, ⟨[.map 8364, .md 1 (.ofNat 0) true], 155, 0, none⟩),
(12482, ⟨[i 1, i 1, i 0, i 0, i 0], 116, 5, none⟩),
(12528, ⟨[i 2, i 1, i 0, i 0, i 0, i 5, i 0, i 0, i 0, i 0], 116, 5, none⟩),
(12558, ⟨[i 2, i 2, i 0, i 0, i 0], 116, 5, none⟩),
(12563, ⟨[i 1, i 4, i 0, i 0, i 0], 116, 5, none⟩),
(12588, ⟨[i 5, i 1, i 0, i 0, i 0], 116, 5, none⟩),
(12618, ⟨[i 2, i 3, i 0, i 0, i 0], 116, 5, none⟩),
(12623, ⟨[i 1, i 6, i 0, i 0, i 0], 116, 5, none⟩),
(12648, ⟨[i 5, i 2, i 0, i 0, i 0], 116, 5, none⟩),
(12678, ⟨[i 2, i 4, i 0, i 0, i 0], 116, 5, none⟩),
(12683, ⟨[i 1, i 8, i 0, i 0, i 0], 116, 5, none⟩),
(12708, ⟨[i 5, i 3, i 0, i 0, i 0], 116, 5, none⟩),
(12738, ⟨[i 2, i 5, i 0, i 0, i 0], 116, 5, none⟩),
(12743, ⟨[i 1, i 10, i 0, i 0, i 0], 116, 5, none⟩),
(12768, ⟨[i 5, i 4, i 0, i 0, i 0], 116, 5, none⟩),
(12798, ⟨[i 2, i 6, i 0, i 0, i 0], 116, 5, none⟩),
(12803, ⟨[i 1, i 12, i 0, i 0, i 0], 116, 5, none⟩),
(12828, ⟨[i 5, i 5, i 0, i 0, i 0], 116, 5, none⟩),
(12858, ⟨[i 2, i 7, i 0, i 0, i 0], 116, 5, none⟩),
(12863, ⟨[i 1, i 14, i 0, i 0, i 0], 116, 5, none⟩),
(12888, ⟨[i 5, i 6, i 0, i 0, i 0], 116, 5, none⟩),
(12918, ⟨[i 2, i 8, i 0, i 0, i 0], 116, 5, none⟩),
(12923, ⟨[i 1, i 16, i 0, i 0, i 0], 116, 5, none⟩),
(12948, ⟨[i 5, i 7, i 0, i 0, i 0], 116, 5, none⟩),
(12965, ⟨[i 5, i 8, i 0, i 0, i 0], 116, 5, none⟩)]
private noncomputable def m0 : MM := ⟨[48], l0, 123, [⟨48, 0, [.v (.c (.ptr 12 0))], .v (.c (.nili))⟩]⟩
private theorem m0_k : H0.tbl m0 = true := by kernel_rfl
private noncomputable def h1 : HK := H0.memo m0 m0_k
private noncomputable def m1 : MM := ⟨[155], l1, 272, [⟨155, 0, [.v (.c (.ptr 12 0)), .v (.c (i 0))], .tup [.agg [i 0, i 0, i 0], .c (.bool true)]⟩,
⟨155, 1, [.v (.c (.ptr 12 0)), .v (.c (i 1))], .tup [.agg [i 0, i 0, i 1], .c (.bool true)]⟩,
⟨155, 2, [.v (.c (.ptr 12 0)), .v (.c (i 2))], .tup [.agg [i 0, i 0, i 2], .c (.bool true)]⟩,
⟨155, 3, [.v (.c (.ptr 12 0)), .v (.c (i 3))], .tup [.agg [i 0, i 0, i 3], .c (.bool true)]⟩,
⟨155, 4, [.v (.c (.ptr 12 0)), .v (.c (i 4))], .tup [.agg [i 1, i 0, i 0], .c (.bool true)]⟩,
⟨155, 5, [.v (.c (.ptr 12 0)), .v (.c (i 5))], .tup [.agg [i 1, i 0, i 1], .c (.bool true)]⟩,
⟨155, 6, [.v (.c (.ptr 12 0)), .v (.c (i 6))], .tup [.agg [i 2, i 0, i 0], .c (.bool true)]⟩,
⟨155, 7, [.v (.c (.ptr 12 0)), .v (.c (i 7))], .tup [.agg [i 2, i 0, i 1], .c (.bool true)]⟩,
⟨155, 8, [.v (.c (.ptr 12 0)), .v (.c (i 8))], .tup [.agg [i 3, i 0, i 0], .c (.bool true)]⟩,
⟨155, 9, [.v (.c (.ptr 12 0)), .v (.c (i 9))], .tup [.agg [i 3, i 0, i 1], .c (.bool true)]⟩,
⟨155, 10, [.v (.c (.ptr 12 0)), .v (.c (i 10))], .tup [.agg [i 4, i 0, i 0], .c (.bool true)]⟩,
⟨155, 11, [.v (.c (.ptr 12 0)), .v (.c (i 11))], .tup [.agg [i 4, i 0, i 1], .c (.bool true)]⟩,
⟨155, 12, [.v (.c (.ptr 12 0)), .v (.c (i 12))], .tup [.agg [i 5, i 0, i 0], .c (.bool true)]⟩,
⟨155, 13, [.v (.c (.ptr 12 0)), .v (.c (i 13))], .tup [.agg [i 5, i 0, i 1], .c (.bool true)]⟩,
⟨155, 14, [.v (.c (.ptr 12 0)), .v (.c (i 14))], .tup [.agg [i 6, i 0, i 0], .c (.bool true)]⟩,
⟨155, 15, [.v (.c (.ptr 12 0)), .v (.c (i 15))], .tup [.agg [i 6, i 0, i 1], .c (.bool true)]⟩,
⟨155, 16, [.v (.c (.ptr 12 0)), .v (.c (i 16))], .tup [.agg [i 7, i 0, i 0], .c (.bool true)]⟩,
⟨155, 17, [.v (.c (.ptr 12 0)), .v (.c (i 17))], .tup [.agg [i 7, i 0, i 1], .c (.bool true)]⟩,
⟨155, 18, [.v (.c (.ptr 12 0)), .v (.c (i 18))], .tup [.agg [i 8, i 0, i 0], .c (.bool true)]⟩]⟩
private theorem m1_k : h1.tbl m1 = true := by kernel_rfl
private noncomputable def h2 : HK := h1.memo m1 m1_k
private noncomputable def s1 : RE := ⟨76, [.v (.c (.ptr 12 0))], 123, .v (.c (.ptr 123 0)), l2, 365⟩
private theorem s1_k : h2.srp l0 s1 = true := by kernel_rfl
private noncomputable def h3 : HK := h2.srep _ s1 s1_k
private noncomputable def s2 : RE := ⟨49, [.v (.c (.ptr 12 0)), .v (.c (.snil))], 123, .v (.c (.ptr 425 0)), l3, 6741⟩
private theorem s2_k : h3.rep l0 s2 = true := by kernel_rfl
private noncomputable def h4 : HK := h3.repl _ s2 s2_k
private noncomputable def s3 : RE := ⟨151, [.v (.c (.ptr 12 0)), .v (.c (.ptr 425 0)), .v (.c (i 1))], 6945, .v (.c (.snil)), [], 7135⟩
private theorem s3_k : h4.srp l4 s3 = true := by kernel_rfl
private noncomputable def h5 : HK := h4.srep _ s3 s3_k
private noncomputable def s4 : RE := ⟨151, [.v (.c (.ptr 12 0)), .v (.c (.ptr 425 0)), .v (.c (i 4))], 7164, .v (.c (.snil)), [], 7345⟩
private theorem s4_k : h5.srp l4 s4 = true := by kernel_rfl
private noncomputable def h6 : HK := h5.srep _ s4 s4_k
private noncomputable def s5 : RE := ⟨151, [.v (.c (.ptr 12 0)), .v (.c (.ptr 425 0)), .v (.c (i 6))], 7361, .v (.c (.snil)), [], 7533⟩
private theorem s5_k : h6.srp l4 s5 = true := by kernel_rfl
private noncomputable def h7 : HK := h6.srep _ s5 s5_k
private noncomputable def s6 : RE := ⟨151, [.v (.c (.ptr 12 0)), .v (.c (.ptr 425 0)), .v (.c (i 8))], 7549, .v (.c (.snil)), [], 7712⟩
private theorem s6_k : h7.srp l4 s6 = true := by kernel_rfl
private noncomputable def h8 : HK := h7.srep _ s6 s6_k
private noncomputable def s7 : RE := ⟨151, [.v (.c (.ptr 12 0)), .v (.c (.ptr 425 0)), .v (.c (i 10))], 7728, .v (.c (.snil)), [], 7882⟩
private theorem s7_k : h8.srp l4 s7 = true := by kernel_rfl
private noncomputable def h9 : HK := h8.srep _ s7 s7_k
private noncomputable def s8 : RE := ⟨151, [.v (.c (.ptr 12 0)), .v (.c (.ptr 425 0)), .v (.c (i 12))], 7898, .v (.c (.snil)), [], 8043⟩
private theorem s8_k : h9.srp l4 s8 = true := by kernel_rfl
private noncomputable def h10 : HK := h9.srep _ s8 s8_k
private noncomputable def s9 : RE := ⟨151, [.v (.c (.ptr 12 0)), .v (.c (.ptr 425 0)), .v (.c (i 14))], 8059, .v (.c (.snil)), [], 8195⟩
private theorem s9_k : h10.srp l4 s9 = true := by kernel_rfl
private noncomputable def h11 : HK := h10.srep _ s9 s9_k
private noncomputable def s10 : RE := ⟨151, [.v (.c (.ptr 12 0)), .v (.c (.ptr 425 0)), .v (.c (i 16))], 8211, .v (.c (.snil)), [], 8338⟩
private theorem s10_k : h11.srp l4 s10 = true := by kernel_rfl
private noncomputable def h12 : HK := h11.srep _ s10 s10_k
private noncomputable def s11 : RE := ⟨85, [.v (.c (.ptr 12 0)), .v (.c (.ptr 425 0)), .v (.c (i 0))], 8367, .v (.c (.snil)), [], 8749⟩
private theorem s11_k : h12.srp l4 s11 = true := by kernel_rfl
private noncomputable def h13 : HK := h12.srep _ s11 s11_k
private noncomputable def s12 : RE := ⟨86, [.v (.c (.ptr 12 0)), .v (.c (.ptr 425 0)), .v (.c (i 0))], 8751, .v (.c (.snil)), [], 8942⟩
private theorem s12_k : h13.srp l4 s12 = true := by kernel_rfl
private noncomputable def h14 : HK := h13.srep _ s12 s12_k
private noncomputable def s13 : RE := ⟨85, [.v (.c (.ptr 12 0)), .v (.c (.ptr 425 0)), .v (.c (i 1))], 8944, .v (.c (.snil)), [], 9292⟩
private theorem s13_k : h14.srp l4 s13 = true := by kernel_rfl
private noncomputable def h15 : HK := h14.srep _ s13 s13_k
private noncomputable def s14 : RE := ⟨86, [.v (.c (.ptr 12 0)), .v (.c (.ptr 425 0)), .v (.c (i 1))], 9294, .v (.c (.snil)), [], 9468⟩
private theorem s14_k : h15.srp l4 s14 = true := by kernel_rfl
private noncomputable def h16 : HK := h15.srep _ s14 s14_k
private noncomputable def s15 : RE := ⟨85, [.v (.c (.ptr 12 0)), .v (.c (.ptr 425 0)), .v (.c (i 2))], 9470, .v (.c (.snil)), [], 9800⟩
private theorem s15_k : h16.srp l4 s15 = true := by kernel_rfl
private noncomputable def h17 : HK := h16.srep _ s15 s15_k
private noncomputable def s16 : RE := ⟨86, [.v (.c (.ptr 12 0)), .v (.c (.ptr 425 0)), .v (.c (i 2))], 9802, .v (.c (.snil)), [], 9967⟩
private theorem s16_k : h17.srp l4 s16 = true := by kernel_rfl
private noncomputable def h18 : HK := h17.srep _ s16 s16_k
private noncomputable def s17 : RE := ⟨85, [.v (.c (.ptr 12 0)), .v (.c (.ptr 425 0)), .v (.c (i 3))], 9969, .v (.c (.snil)), [], 10281⟩
private theorem s17_k : h18.srp l4 s17 = true := by kernel_rfl
private noncomputable def h19 : HK := h18.srep _ s17 s17_k
private noncomputable def s18 : RE := ⟨86, [.v (.c (.ptr 12 0)), .v (.c (.ptr 425 0)), .v (.c (i 3))], 10283, .v (.c (.snil)), [], 10439⟩
private theorem s18_k : h19.srp l4 s18 = true := by kernel_rfl
private noncomputable def h20 : HK := h19.srep _ s18 s18_k
private noncomputable def s19 : RE := ⟨85, [.v (.c (.ptr 12 0)), .v (.c (.ptr 425 0)), .v (.c (i 4))], 10441, .v (.c (.snil)), [], 10735⟩
private theorem s19_k : h20.srp l4 s19 = true := by kernel_rfl
private noncomputable def h21 : HK := h20.srep _ s19 s19_k
private noncomputable def s20 : RE := ⟨86, [.v (.c (.ptr 12 0)), .v (.c (.ptr 425 0)), .v (.c (i 4))], 10737, .v (.c (.snil)), [], 10884⟩
private theorem s20_k : h21.srp l4 s20 = true := by kernel_rfl
private noncomputable def h22 : HK := h21.srep _ s20 s20_k
private noncomputable def s21 : RE := ⟨85, [.v (.c (.ptr 12 0)), .v (.c (.ptr 425 0)), .v (.c (i 5))], 10886, .v (.c (.snil)), [], 11162⟩
private theorem s21_k : h22.srp l4 s21 = true := by kernel_rfl
private noncomputable def h23 : HK := h22.srep _ s21 s21_k
private noncomputable def s22 : RE := ⟨86, [.v (.c (.ptr 12 0)), .v (.c (.ptr 425 0)), .v (.c (i 5))], 11164, .v (.c (.snil)), [], 11302⟩
private theorem s22_k : h23.srp l4 s22 = true := by kernel_rfl
private noncomputable def h24 : HK := h23.srep _ s22 s22_k
private noncomputable def s23 : RE := ⟨85, [.v (.c (.ptr 12 0)), .v (.c (.ptr 425 0)), .v (.c (i 6))], 11304, .v (.c (.snil)), [], 11562⟩
private theorem s23_k : h24.srp l4 s23 = true := by kernel_rfl
private noncomputable def h25 : HK := h24.srep _ s23 s23_k
private noncomputable def s24 : RE := ⟨86, [.v (.c (.ptr 12 0)), .v (.c (.ptr 425 0)), .v (.c (i 6))], 11564, .v (.c (.snil)), [], 11693⟩
private theorem s24_k : h25.srp l4 s24 = true := by kernel_rfl
private noncomputable def h26 : HK := h25.srep _ s24 s24_k
private noncomputable def s25 : RE := ⟨85, [.v (.c (.ptr 12 0)), .v (.c (.ptr 425 0)), .v (.c (i 7))], 11695, .v (.c (.snil)), [], 11935⟩
private theorem s25_k : h26.srp l4 s25 = true := by kernel_rfl
private noncomputable def h27 : HK := h26.srep _ s25 s25_k
private noncomputable def s26 : RE := ⟨86, [.v (.c (.ptr 12 0)), .v (.c (.ptr 425 0)), .v (.c (i 7))], 11937, .v (.c (.snil)), [], 12057⟩
private theorem s26_k : h27.srp l4 s26 = true := by kernel_rfl
private noncomputable def h28 : HK := h27.srep _ s26 s26_k
private noncomputable def s27 : RE := ⟨85, [.v (.c (.ptr 12 0)), .v (.c (.ptr 425 0)), .v (.c (i 8))], 12059, .v (.c (.snil)), [], 12281⟩
private theorem s27_k : h28.srp l4 s27 = true := by kernel_rfl
private noncomputable def h29 : HK := h28.srep _ s27 s27_k
private noncomputable def s28 : RE := ⟨86, [.v (.c (.ptr 12 0)), .v (.c (.ptr 425 0)), .v (.c (i 8))], 12283, .v (.c (.snil)), [], 12394⟩
private theorem s28_k : h29.srp l4 s28 = true := by kernel_rfl
private noncomputable def h30 : HK := h29.srep _ s28 s28_k
private noncomputable def s29 : RE := ⟨50, [.v (.c (.ptr 12 0)), .v (.c (.ptr 425 0))], 6741, .v (.c (.ptr 8365 0)), l5, 12967⟩
private theorem s29_k : h30.rep l4 s29 = true := by kernel_rfl
private noncomputable def h31 : HK := h30.repl _ s29 s29_k
theorem TopTaintCalls_7_f_run : isBool true (runW h31.K 4 [mi 10 7, ab false] s0) = true := by kernel_rfl
theorem TopTaintCalls_7_f_law {args : Array Value} (ha : VAs (fun _ => none) [mi 10 7, ab false] args.toList) (w : World) (hT : Tab w) :
    Calls Tryz.prog 4 args w fun e w' => Below w.heap.size w w' ∧ e = .returned (.bool true) := h31.law TopTaintCalls_7_f_run ha w hT
end Go.Proofs.YteajpblmbmncdaaGreatDoor
