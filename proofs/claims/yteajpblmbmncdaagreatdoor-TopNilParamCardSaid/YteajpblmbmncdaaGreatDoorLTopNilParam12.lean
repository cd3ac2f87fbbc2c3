/- Tables of calls, and a run that uses them. -/
import Derived.Test.YteajpblmbmncdaaGreatDoorLn
namespace Go.Proofs.YteajpblmbmncdaaGreatDoor
open Go Go.RowKit Ev
set_option maxRecDepth 100000
set_option linter.unusedVariables false
private noncomputable abbrev i (n : Nat) : CV := .int .i64 (.ofNat n)
private noncomputable abbrev o (b a n : Nat) : CV := .slice b a n (.opn 0)
private noncomputable abbrev f (b a n : Nat) : CV := .slice b a n (.fix n)
private noncomputable abbrev e (k t : Nat) : Nat × BK := (k, ⟨[.snil], t, 0, none⟩)
private noncomputable abbrev l0 : Bls := [(1, ⟨[i 0, i 0, i 0, i 0, i 1, i 0], 69, 0, none⟩),
(2, ⟨[f 1 0 3], 47, 0, none⟩),
(4, ⟨[i 1, i 0], 69, 0, none⟩),
(5, ⟨[i 0, i 0], 69, 0, none⟩),
(7, ⟨[i 1, i 0], 69, 0, none⟩),
(9, ⟨[.snil, i 0, i 0, f 4 0 1, i 0, i 0, f 5 0 1, i 0, i 0, f 7 0 1, i 1, i 0], 72, 0, none⟩),
(10, ⟨[i 0], 3, 0, none⟩),
(11, ⟨[f 10 0 1], 74, 0, none⟩),
(12, ⟨[f 2 0 1, f 9 0 4, f 11 0 1, .snil, o 111 0 8, i 0], 57, 0, none⟩),
(20, ⟨[i 0, i 0, i 1, i 0], 69, 2, none⟩),
(21, ⟨[o 31 0 3, i 3, i 0, i 0, i 0], 46, 0, none⟩),
(28, ⟨[i 1], 3, 0, none⟩),
(31, ⟨[i 1, i 0, i 0, i 0, i 1, .snil, i 4, i 1, i 0, i 0, i 0, .snil, i 12, i 0, i 0, i 0, i 1, f 28 0 1], 29, 6, none⟩),
(36, ⟨[i 1, i 0, i 0, i 0], 69, 2, none⟩),
(37, ⟨[o 43 0 1, i 3, i 1, i 0, i 0], 46, 0, none⟩),
(40, ⟨[i 0], 3, 0, none⟩),
(43, ⟨[i 12, i 1, i 0, i 0, i 2, f 40 0 1], 29, 6, none⟩),
(48, ⟨[i 1, i 0, i 0, i 0], 69, 2, none⟩),
(49, ⟨[o 55 0 1, i 3, i 1, i 0, i 0], 46, 0, none⟩),
(52, ⟨[i 0], 3, 0, none⟩),
(55, ⟨[i 12, i 1, i 0, i 0, i 3, f 52 0 1], 29, 6, none⟩),
(60, ⟨[i 1, i 0, i 0, i 0], 69, 2, none⟩),
(61, ⟨[o 67 0 1, i 3, i 1, i 0, i 0], 46, 0, none⟩),
(64, ⟨[i 0], 3, 0, none⟩),
(67, ⟨[i 12, i 1, i 0, i 0, i 4, f 64 0 1], 29, 6, none⟩),
(72, ⟨[i 1, i 0, i 0, i 0], 69, 2, none⟩),
(73, ⟨[o 79 0 1, i 3, i 1, i 0, i 0], 46, 0, none⟩),
(76, ⟨[i 0], 3, 0, none⟩),
(79, ⟨[i 12, i 1, i 0, i 0, i 5, f 76 0 1], 29, 6, none⟩),
(84, ⟨[i 1, i 0, i 0, i 0], 69, 2, none⟩),
(85, ⟨[o 91 0 1, i 3, i 1, i 0, i 0], 46, 0, none⟩),
(88, ⟨[i 0], 3, 0, none⟩),
(91, ⟨[i 12, i 1, i 0, i 0, i 6, f 88 0 1], 29, 6, none⟩),
(96, ⟨[i 1, i 0, i 0, i 0], 69, 2, none⟩),
(97, ⟨[o 103 0 1, i 3, i 1, i 0, i 0], 46, 0, none⟩),
(100, ⟨[i 0], 3, 0, none⟩),
(103, ⟨[i 12, i 1, i 0, i 0, i 7, f 100 0 1], 29, 6, none⟩),
(108, ⟨[i 1, i 0, i 0, i 0], 69, 2, none⟩),
(109, ⟨[o 114 0 1, i 3, i 1, i 0, i 0], 46, 0, none⟩),
(111, ⟨[i 0, o 20 0 2, f 21 0 1, i 1, o 36 0 2, f 37 0 1, i 1, o 48 0 2, f 49 0 1, i 1, o 60 0 2, f 61 0 1, i 1, o 72 0 2, f 73 0 1, i 1, o 84 0 2, f 85 0 1, i 1, o 96 0 2, f 97 0 1, i 1, o 108 0 2, f 109 0 1], 50, 3, none⟩),
(114, ⟨[i 7, i 1, i 0, i 0, i 0, .snil], 29, 6, none⟩)]
private noncomputable abbrev l1 : Bls := [(12, ⟨[f 2 0 1, f 9 0 4, f 11 0 1, .snil, o 111 0 8, i 0], 57, 0, none⟩),
(21, ⟨[o 31 0 3, i 3, i 0, i 0, i 0], 46, 0, none⟩),
(37, ⟨[o 43 0 1, i 3, i 1, i 0, i 0], 46, 0, none⟩),
(49, ⟨[o 55 0 1, i 3, i 1, i 0, i 0], 46, 0, none⟩),
(61, ⟨[o 67 0 1, i 3, i 1, i 0, i 0], 46, 0, none⟩),
(73, ⟨[o 79 0 1, i 3, i 1, i 0, i 0], 46, 0, none⟩),
(85, ⟨[o 91 0 1, i 3, i 1, i 0, i 0], 46, 0, none⟩),
(97, ⟨[o 103 0 1, i 3, i 1, i 0, i 0], 46, 0, none⟩),
(109, ⟨[o 114 0 1, i 3, i 1, i 0, i 0], 46, 0, none⟩),
(111, ⟨[i 0, o 20 0 2, f 21 0 1, i 1, o 36 0 2, f 37 0 1, i 1, o 48 0 2, f 49 0 1, i 1, o 60 0 2, f 61 0 1, i 1, o 72 0 2, f 73 0 1, i 1, o 84 0 2, f 85 0 1, i 1, o 96 0 2, f 97 0 1, i 1, o 108 0 2, f 109 0 1], 50, 3, none⟩)]
private noncomputable abbrev l2 : Bls := [(154, ⟨[o 246 0 8, o 250 0 8, .snil, .snil, .snil, i 24], 230, 0, none⟩),
(160, ⟨[i 0, i 1], 3, 1, none⟩),
(172, ⟨[i 3, i 4], 3, 1, none⟩),
(184, ⟨[i 6, i 7], 3, 1, none⟩),
(196, ⟨[i 9, i 10], 3, 1, none⟩),
(208, ⟨[i 12, i 13], 3, 1, none⟩),
(220, ⟨[i 15, i 16], 3, 1, none⟩),
(232, ⟨[i 18, i 19], 3, 1, none⟩),
(244, ⟨[i 21, i 22], 3, 1, none⟩),
(246, ⟨[o 160 0 2, o 172 0 2, o 184 0 2, o 196 0 2, o 208 0 2, o 220 0 2, o 232 0 2, o 244 0 2], 27, 1, none⟩),
(250, ⟨[i 2, i 5, i 8, i 11, i 14, i 17, i 20, i 23], 3, 1, none⟩)]
private noncomputable abbrev l3 : Bls := [(154, ⟨[o 246 0 8, o 250 0 8, .snil, .snil, .snil, i 24], 230, 0, none⟩),
(160, ⟨[i 0, i 1], 3, 1, none⟩),
(172, ⟨[i 3, i 4], 3, 1, none⟩),
(184, ⟨[i 6, i 7], 3, 1, none⟩),
(196, ⟨[i 9, i 10], 3, 1, none⟩),
(208, ⟨[i 12, i 13], 3, 1, none⟩),
(220, ⟨[i 15, i 16], 3, 1, none⟩),
(232, ⟨[i 18, i 19], 3, 1, none⟩),
(244, ⟨[i 21, i 22], 3, 1, none⟩),
(246, ⟨[o 160 0 2, o 172 0 2, o 184 0 2, o 196 0 2, o 208 0 2, o 220 0 2, o 232 0 2, o 244 0 2], 27, 1, none⟩),
(250, ⟨[i 2, i 5, i 8, i 11, i 14, i 17, i 20, i 23], 3, 1, none⟩),
(377, ⟨[o 425 0 24], 233, 0, none⟩),
(425, ⟨[i 0, i 1, i 2, i 3, i 4, i 5, i 6, i 7, i 8, i 9, i 10, i 11, i 12, i 13, i 14, i 15, i 16, i 17, i 18, i 19, i 20, i 21, i 22, i 23], 3, 1, none⟩),
(426, ⟨[.snil, .snil, .snil, .snil, .snil, .snil, .snil, .snil, .snil, .snil, .snil, .snil, .snil, .snil, .snil, .snil, .snil, .snil, .snil, .snil, .snil, .snil, .snil, .snil], 238, 0, none⟩),
(427, ⟨[o 649 0 1], 139, 0, none⟩),
(428, ⟨[], 0, 0, some (.map [(0, .agg [i 2, i 1], .c (.bool true)), (1, .agg [i 4, i 2], .c (.bool true)), (2, .agg [i 6, i 3], .c (.bool true)), (3, .agg [i 8, i 4], .c (.bool true)), (4, .agg [i 10, i 5], .c (.bool true)), (5, .agg [i 12, i 6], .c (.bool true)), (6, .agg [i 14, i 7], .c (.bool true))] 7)⟩),
(429, ⟨[], 0, 0, some (.map [] 0)⟩),
(430, ⟨[.snil, .snil, .map 429, i 0], 237, 0, none⟩),
(431, ⟨[.ptr 12 0, .ptr 154 0, .ptr 377 0, o 641 0 24, o 644 0 24, o 647 0 24, f 426 0 24, .ptr 427 0, .map 428, .ptr 430 0], 145, 0, none⟩),
e 432 139,
e 435 139,
e 438 139,
e 441 139,
e 444 139,
(447, ⟨[o 964 0 1], 139, 0, none⟩),
e 450 139,
e 453 139,
e 456 139,
e 459 139,
e 462 139,
(465, ⟨[o 1553 0 1], 139, 0, none⟩),
e 468 139,
e 471 139,
e 474 139,
e 477 139,
e 480 139,
e 483 139,
e 486 139,
e 489 139,
(492, ⟨[o 2152 0 1], 139, 0, none⟩),
e 495 139,
e 498 139,
e 501 139,
e 504 139,
e 507 139,
e 510 139,
e 513 139,
e 516 139,
(519, ⟨[o 2761 0 1], 139, 0, none⟩),
e 522 139,
e 525 139,
e 528 139,
e 531 139,
e 534 139,
e 537 139,
e 540 139,
e 543 139,
(546, ⟨[o 3380 0 1], 139, 0, none⟩),
e 549 139,
e 552 139,
e 555 139,
e 558 139,
e 561 139,
e 564 139,
e 567 139,
e 570 139,
(573, ⟨[o 4009 0 1], 139, 0, none⟩),
e 576 139,
e 579 139,
e 582 139,
e 585 139,
e 588 139,
e 591 139,
e 594 139,
e 597 139,
(600, ⟨[o 4648 0 1], 139, 0, none⟩),
e 603 139,
e 606 139,
e 609 139,
e 612 139,
e 615 139,
e 618 139,
e 621 139,
e 624 139,
e 627 139,
e 630 139,
e 633 139,
e 636 139,
e 639 139,
(641, ⟨[.ptr 432 0, .ptr 441 0, .ptr 450 0, .ptr 459 0, .ptr 468 0, .ptr 477 0, .ptr 486 0, .ptr 495 0, .ptr 504 0, .ptr 513 0, .ptr 522 0, .ptr 531 0, .ptr 540 0, .ptr 549 0, .ptr 558 0, .ptr 567 0, .ptr 576 0, .ptr 585 0, .ptr 594 0, .ptr 603 0, .ptr 612 0, .ptr 621 0, .ptr 630 0, .ptr 639 0], 136, 1, none⟩),
e 642 139,
(644, ⟨[.ptr 435 0, .ptr 444 0, .ptr 453 0, .ptr 462 0, .ptr 471 0, .ptr 480 0, .ptr 489 0, .ptr 498 0, .ptr 507 0, .ptr 516 0, .ptr 525 0, .ptr 534 0, .ptr 543 0, .ptr 552 0, .ptr 561 0, .ptr 570 0, .ptr 579 0, .ptr 588 0, .ptr 597 0, .ptr 606 0, .ptr 615 0, .ptr 624 0, .ptr 633 0, .ptr 642 0], 136, 1, none⟩),
e 645 139,
(647, ⟨[.ptr 438 0, .ptr 447 0, .ptr 456 0, .ptr 465 0, .ptr 474 0, .ptr 483 0, .ptr 492 0, .ptr 501 0, .ptr 510 0, .ptr 519 0, .ptr 528 0, .ptr 537 0, .ptr 546 0, .ptr 555 0, .ptr 564 0, .ptr 573 0, .ptr 582 0, .ptr 591 0, .ptr 600 0, .ptr 609 0, .ptr 618 0, .ptr 627 0, .ptr 636 0, .ptr 645 0], 136, 1, none⟩),
(649, ⟨[.int .u64 (.ofNat 255)], 224, 1, none⟩),
(964, ⟨[.int .u64 (.ofNat 8)], 224, 1, none⟩),
(1553, ⟨[.int .u64 (.ofNat 64)], 224, 1, none⟩),
(2152, ⟨[.int .u64 (.ofNat 512)], 224, 1, none⟩),
(2761, ⟨[.int .u64 (.ofNat 4096)], 224, 1, none⟩),
(3380, ⟨[.int .u64 (.ofNat 32768)], 224, 1, none⟩),
(4009, ⟨[.int .u64 (.ofNat 262144)], 224, 1, none⟩),
(4648, ⟨[.int .u64 (.ofNat 2097152)], 224, 1, none⟩)]
private noncomputable abbrev l4 : Bls := [(1, ⟨[i 0, i 0, i 0, i 0, i 1, i 0], 69, 0, none⟩),
(2, ⟨[f 1 0 3], 47, 0, none⟩),
(4, ⟨[i 1, i 0], 69, 0, none⟩),
(5, ⟨[i 0, i 0], 69, 0, none⟩),
(7, ⟨[i 1, i 0], 69, 0, none⟩),
(9, ⟨[.snil, i 0, i 0, f 4 0 1, i 0, i 0, f 5 0 1, i 0, i 0, f 7 0 1, i 1, i 0], 72, 0, none⟩),
(10, ⟨[i 0], 3, 0, none⟩),
(11, ⟨[f 10 0 1], 74, 0, none⟩),
(12, ⟨[f 2 0 1, f 9 0 4, f 11 0 1, .snil, o 111 0 8, i 0], 57, 0, none⟩),
(20, ⟨[i 0, i 0, i 1, i 0], 69, 2, none⟩),
(21, ⟨[o 31 0 3, i 3, i 0, i 0, i 0], 46, 0, none⟩),
(28, ⟨[i 1], 3, 0, none⟩),
(31, ⟨[i 1, i 0, i 0, i 0, i 1, .snil, i 4, i 1, i 0, i 0, i 0, .snil, i 12, i 0, i 0, i 0, i 1, f 28 0 1], 29, 6, none⟩),
(36, ⟨[i 1, i 0, i 0, i 0], 69, 2, none⟩),
(37, ⟨[o 43 0 1, i 3, i 1, i 0, i 0], 46, 0, none⟩),
(40, ⟨[i 0], 3, 0, none⟩),
(43, ⟨[i 12, i 1, i 0, i 0, i 2, f 40 0 1], 29, 6, none⟩),
(48, ⟨[i 1, i 0, i 0, i 0], 69, 2, none⟩),
(49, ⟨[o 55 0 1, i 3, i 1, i 0, i 0], 46, 0, none⟩),
(52, ⟨[i 0], 3, 0, none⟩),
(55, ⟨[i 12, i 1, i 0, i 0, i 3, f 52 0 1], 29, 6, none⟩),
(60, ⟨[i 1, i 0, i 0, i 0], 69, 2, none⟩),
(61, ⟨[o 67 0 1, i 3, i 1, i 0, i 0], 46, 0, none⟩),
(64, ⟨[i 0], 3, 0, none⟩),
(67, ⟨[i 12, i 1, i 0, i 0, i 4, f 64 0 1], 29, 6, none⟩),
(72, ⟨[i 1, i 0, i 0, i 0], 69, 2, none⟩),
(73, ⟨[o 79 0 1, i 3, i 1, i 0, i 0], 46, 0, none⟩),
(76, ⟨[i 0], 3, 0, none⟩),
(79, ⟨[i 12, i 1, i 0, i 0, i 5, f 76 0 1], 29, 6, none⟩),
(84, ⟨[i 1, i 0, i 0, i 0], 69, 2, none⟩),
(85, ⟨[o 91 0 1, i 3, i 1, i 0, i 0], 46, 0, none⟩),
(88, ⟨[i 0], 3, 0, none⟩),
(91, ⟨[i 12, i 1, i 0, i 0, i 6, f 88 0 1], 29, 6, none⟩),
(96, ⟨[i 1, i 0, i 0, i 0], 69, 2, none⟩),
(97, ⟨[o 103 0 1, i 3, i 1, i 0, i 0], 46, 0, none⟩),
(100, ⟨[i 0], 3, 0, none⟩),
(103, ⟨[i 12, i 1, i 0, i 0, i 7, f 100 0 1], 29, 6, none⟩),
(108, ⟨[i 1, i 0, i 0, i 0], 69, 2, none⟩),
(109, ⟨[o 114 0 1, i 3, i 1, i 0, i 0], 46, 0, none⟩),
(111, ⟨[i 0, o 20 0 2, f 21 0 1, i 1, o 36 0 2, f 37 0 1, i 1, o 48 0 2, f 49 0 1, i 1, o 60 0 2, f 61 0 1, i 1, o 72 0 2, f 73 0 1, i 1, o 84 0 2, f 85 0 1, i 1, o 96 0 2, f 97 0 1, i 1, o 108 0 2, f 109 0 1], 50, 3, none⟩),
(114, ⟨[i 7, i 1, i 0, i 0, i 0, .snil], 29, 6, none⟩),
(154, ⟨[o 246 0 8, o 250 0 8, .snil, .snil, .snil, i 24], 230, 0, none⟩),
(160, ⟨[i 0, i 1], 3, 1, none⟩),
(172, ⟨[i 3, i 4], 3, 1, none⟩),
(184, ⟨[i 6, i 7], 3, 1, none⟩),
(196, ⟨[i 9, i 10], 3, 1, none⟩),
(208, ⟨[i 12, i 13], 3, 1, none⟩),
(220, ⟨[i 15, i 16], 3, 1, none⟩),
(232, ⟨[i 18, i 19], 3, 1, none⟩),
(244, ⟨[i 21, i 22], 3, 1, none⟩),
(246, ⟨[o 160 0 2, o 172 0 2, o 184 0 2, o 196 0 2, o 208 0 2, o 220 0 2, o 232 0 2, o 244 0 2], 27, 1, none⟩),
(250, ⟨[i 2, i 5, i 8, i 11, i 14, i 17, i 20, i 23], 3, 1, none⟩),
(377, ⟨[o 425 0 24], 233, 0, none⟩),
(425, ⟨[i 0, i 1, i 2, i 3, i 4, i 5, i 6, i 7, i 8, i 9, i 10, i 11, i 12, i 13, i 14, i 15, i 16, i 17, i 18, i 19, i 20, i 21, i 22, i 23], 3, 1, none⟩),
(426, ⟨[.snil, .snil, .snil, .snil, .snil, .snil, .snil, .snil, .snil, .snil, .snil, .snil, .snil, .snil, .snil, .snil, .snil, .snil, .snil, .snil, .snil, .snil, .snil, .snil], 238, 0, none⟩),
(427, ⟨[o 649 0 1], 139, 0, none⟩),
(428, ⟨[], 0, 0, some (.map [(0, .agg [i 2, i 1], .c (.bool true)), (1, .agg [i 4, i 2], .c (.bool true)), (2, .agg [i 6, i 3], .c (.bool true)), (3, .agg [i 8, i 4], .c (.bool true)), (4, .agg [i 10, i 5], .c (.bool true)), (5, .agg [i 12, i 6], .c (.bool true)), (6, .agg [i 14, i 7], .c (.bool true))] 7)⟩),
(429, ⟨[], 0, 0, some (.map [] 0)⟩),
(430, ⟨[.snil, .snil, .map 429, i 0], 237, 0, none⟩),
(431, ⟨[.ptr 12 0, .ptr 154 0, .ptr 377 0, o 641 0 24, o 644 0 24, o 647 0 24, f 426 0 24, .ptr 427 0, .map 428, .ptr 430 0], 145, 0, none⟩),
e 432 139,
e 435 139,
e 438 139,
e 441 139,
e 444 139,
(447, ⟨[o 964 0 1], 139, 0, none⟩),
e 450 139,
e 453 139,
e 456 139,
e 459 139,
e 462 139,
(465, ⟨[o 1553 0 1], 139, 0, none⟩),
e 468 139,
e 471 139,
e 474 139,
e 477 139,
e 480 139,
e 483 139,
e 486 139,
e 489 139,
(492, ⟨[o 2152 0 1], 139, 0, none⟩),
e 495 139,
e 498 139,
e 501 139,
e 504 139,
e 507 139,
e 510 139,
e 513 139,
e 516 139,
(519, ⟨[o 2761 0 1], 139, 0, none⟩),
e 522 139,
e 525 139,
e 528 139,
e 531 139,
e 534 139,
e 537 139,
e 540 139,
e 543 139,
(546, ⟨[o 3380 0 1], 139, 0, none⟩),
e 549 139,
e 552 139,
e 555 139,
e 558 139,
e 561 139,
e 564 139,
e 567 139,
e 570 139,
(573, ⟨[o 4009 0 1], 139, 0, none⟩),
e 576 139,
e 579 139,
e 582 139,
e 585 139,
e 588 139,
e 591 139,
e 594 139,
e 597 139,
(600, ⟨[o 4648 0 1], 139, 0, none⟩),
e 603 139,
e 606 139,
e 609 139,
e 612 139,
e 615 139,
e 618 139,
e 621 139,
e 624 139,
e 627 139,
e 630 139,
e 633 139,
e 636 139,
e 639 139,
(641, ⟨[.ptr 432 0, .ptr 441 0, .ptr 450 0, .ptr 459 0, .ptr 468 0, .ptr 477 0, .ptr 486 0, .ptr 495 0, .ptr 504 0, .ptr 513 0, .ptr 522 0, .ptr 531 0, .ptr 540 0, .ptr 549 0, .ptr 558 0, .ptr 567 0, .ptr 576 0, .ptr 585 0, .ptr 594 0, .ptr 603 0, .ptr 612 0, .ptr 621 0, .ptr 630 0, .ptr 639 0], 136, 1, none⟩),
e 642 139,
(644, ⟨[.ptr 435 0, .ptr 444 0, .ptr 453 0, .ptr 462 0, .ptr 471 0, .ptr 480 0, .ptr 489 0, .ptr 498 0, .ptr 507 0, .ptr 516 0, .ptr 525 0, .ptr 534 0, .ptr 543 0, .ptr 552 0, .ptr 561 0, .ptr 570 0, .ptr 579 0, .ptr 588 0, .ptr 597 0, .ptr 606 0, .ptr 615 0, .ptr 624 0, .ptr 633 0, .ptr 642 0], 136, 1, none⟩),
e 645 139,
(647, ⟨[.ptr 438 0, .ptr 447 0, .ptr 456 0, .ptr 465 0, .ptr 474 0, .ptr 483 0, .ptr 492 0, .ptr 501 0, .ptr 510 0, .ptr 519 0, .ptr 528 0, .ptr 537 0, .ptr 546 0, .ptr 555 0, .ptr 564 0, .ptr 573 0, .ptr 582 0, .ptr 591 0, .ptr 600 0, .ptr 609 0, .ptr 618 0, .ptr 627 0, .ptr 636 0, .ptr 645 0], 136, 1, none⟩),
(649, ⟨[.int .u64 (.ofNat 255)], 224, 1, none⟩),
(964, ⟨[.int .u64 (.ofNat 8)], 224, 1, none⟩),
(1553, ⟨[.int .u64 (.ofNat 64)], 224, 1, none⟩),
(2152, ⟨[.int .u64 (.ofNat 512)], 224, 1, none⟩),
(2761, ⟨[.int .u64 (.ofNat 4096)], 224, 1, none⟩),
(3380, ⟨[.int .u64 (.ofNat 32768)], 224, 1, none⟩),
(4009, ⟨[.int .u64 (.ofNat 262144)], 224, 1, none⟩),
(4648, ⟨[.int .u64 (.ofNat 2097152)], 224, 1, none⟩)]
private noncomputable abbrev l5 : Bls := [(7120, ⟨[], 0, 0, some (.map [(0, .agg [i 1, i 1, i 0, i 0, i 0], .c (o 10652 0 1)), (1, .agg [i 5, i 1, i 0, i 0, i 0], .c (o 10657 0 1)), (2, .agg [i 1, i 2, i 0, i 0, i 0], .c (o 10682 0 1)), (3, .agg [i 2, i 1, i 0, i 0, i 0], .c (o 10711 0 1)), (4, .agg [i 5, i 2, i 0, i 0, i 0], .c (o 10716 0 1)), (5, .agg [i 1, i 4, i 0, i 0, i 0], .c (o 10741 0 1)), (6, .agg [i 2, i 2, i 0, i 0, i 0], .c (o 10770 0 1)), (7, .agg [i 5, i 3, i 0, i 0, i 0], .c (o 10775 0 1)), (8, .agg [i 1, i 6, i 0, i 0, i 0], .c (o 10800 0 1)), (9, .agg [i 2, i 3, i 0, i 0, i 0], .c (o 10829 0 1)), (10, .agg [i 5, i 4, i 0, i 0, i 0], .c (o 10834 0 1)), (11, .agg [i 1, i 8, i 0, i 0, i 0], .c (o 10859 0 1)), (12, .agg [i 2, i 4, i 0, i 0, i 0], .c (o 10888 0 1)), (13, .agg [i 5, i 5, i 0, i 0, i 0], .c (o 10893 0 1)), (14, .agg [i 1, i 10, i 0, i 0, i 0], .c (o 10918 0 1)), (15, .agg [i 2, i 5, i 0, i 0, i 0], .c (o 10947 0 1)), (16, .agg [i 5, i 6, i 0, i 0, i 0], .c (o 10952 0 1)), (17, .agg [i 1, i 12, i 0, i 0, i 0], .c (o 10977 0 1)), (18, .agg [i 2, i 6, i 0, i 0, i 0], .c (o 11006 0 1)), (19, .agg [i 5, i 7, i 0, i 0, i 0], .c (o 11011 0 1)), (20, .agg [i 1, i 14, i 0, i 0, i 0], .c (o 11036 0 1)), (21, .agg [i 1, i 16, i 0, i 0, i 0], .c (o 11072 0 1))] 22)⟩),
(7121, ⟨[.map 7120, .md 1 (.ofNat 0) true], 155, 0, none⟩),
(10652, ⟨[i 2, i 1, i 0, i 0, i 0], 116, 5, none⟩),
(10657, ⟨[i 1, i 2, i 0, i 0, i 0], 116, 5, none⟩),
(10682, ⟨[i 5, i 0, i 0, i 0, i 0], 116, 5, none⟩),
(10711, ⟨[i 2, i 2, i 0, i 0, i 0], 116, 5, none⟩),
(10716, ⟨[i 1, i 4, i 0, i 0, i 0], 116, 5, none⟩),
(10741, ⟨[i 5, i 1, i 0, i 0, i 0], 116, 5, none⟩),
(10770, ⟨[i 2, i 3, i 0, i 0, i 0], 116, 5, none⟩),
(10775, ⟨[i 1, i 6, i 0, i 0, i 0], 116, 5, none⟩),
(10800, ⟨[i 5, i 2, i 0, i 0, i 0], 116, 5, none⟩),
(10829, ⟨[i 2, i 4, i 0, i 0, i 0], 116, 5, none⟩),
(10834, ⟨[i 1, i 8, i 0, i 0, i 0], 116, 5, none⟩),
(10859, ⟨[i 5, i 3, i 0, i 0, i 0], 116, 5, none⟩),
(10888, ⟨[i 2, i 5, i 0, i 0, i 0], 116, 5, none⟩),
(10893, ⟨[i 1, i 10, i 0, i 0, i 0], 116, 5, none⟩),
(10918, ⟨[i 5, i 4, i 0, i 0, i 0], 116, 5, none⟩),
(10947, ⟨[i 2, i 6, i 0, i 0, i 0], 116, 5, none⟩),
(10952, ⟨[i 1, i 12, i 0, i 0, i 0], 116, 5, none⟩),
(10977, ⟨[i 5, i 5, i 0, i 0, i 0], 116, 5, none⟩),
(11006, ⟨[i 2, i 7, i 0, i 0, i 0], 116, 5, none⟩),
(11011, ⟨[i 1, i 14, i 0, i 0, i 0], 116, 5, none⟩),
(11036, ⟨[i 5, i 6, i 0, i 0, i 0], 116, 5, none⟩),
(11072, ⟨[i 5, i 7, i 0, i 0, i 0], 116, 5, none⟩)]
private noncomputable def m0 : MM := ⟨[48], l0, 154, [⟨48, 0, [.v (.c (.ptr 12 0))], .v (.c (.nili))⟩]⟩
private theorem m0_k : H0.tbl m0 = true := by kernel_rfl
private noncomputable def h1 : HK := H0.memo m0 m0_k
private noncomputable def m1 : MM := ⟨[155], l1, 289, [⟨155, 0, [.v (.c (.ptr 12 0)), .v (.c (i 0))], .tup [.agg [i 0, i 0, i 0], .c (.bool true)]⟩,
⟨155, 1, [.v (.c (.ptr 12 0)), .v (.c (i 1))], .tup [.agg [i 0, i 0, i 1], .c (.bool true)]⟩,
⟨155, 2, [.v (.c (.ptr 12 0)), .v (.c (i 2))], .tup [.agg [i 0, i 0, i 2], .c (.bool true)]⟩,
⟨155, 3, [.v (.c (.ptr 12 0)), .v (.c (i 3))], .tup [.agg [i 0, i 0, i 3], .c (.bool true)]⟩,
⟨155, 4, [.v (.c (.ptr 12 0)), .v (.c (i 4))], .tup [.agg [i 1, i 0, i 0], .c (.bool true)]⟩,
⟨155, 5, [.v (.c (.ptr 12 0)), .v (.c (i 5))], .tup [.agg [i 1, i 0, i 1], .c (.bool true)]⟩,
⟨155, 6, [.v (.c (.ptr 12 0)), .v (.c (i 6))], .tup [.agg [i 2, i 0, i 0], .c (.bool true)]⟩,
⟨155, 7, [.v (.c (.ptr 12 0)), .v (.c (i 7))], .tup [.agg [i 2, i 0, i 1], .c (.bool true)]⟩,
⟨155, 8, [.v (.c (.ptr 12 0)), .v (.c (i 8))], .tup [.agg [i 3, i 0, i 0], .c (.bool true)]⟩,
⟨155, 9, [.v (.c (.ptr 12 0)), .v (.c (i 9))], .tup [.agg [i 3, i 0, i 1], .c (.bool true)]⟩,
⟨155, 10, [.v (.c (.ptr 12 0)), .v (.c (i 10))], .tup [.agg [i 4, i 0, i 0], .c (.bool true)]⟩,
⟨155, 11, [.v (.c (.ptr 12 0)), .v (.c (i 11))], .tup [.agg [i 4, i 0, i 1], .c (.bool true)]⟩,
⟨155, 12, [.v (.c (.ptr 12 0)), .v (.c (i 12))], .tup [.agg [i 5, i 0, i 0], .c (.bool true)]⟩,
⟨155, 13, [.v (.c (.ptr 12 0)), .v (.c (i 13))], .tup [.agg [i 5, i 0, i 1], .c (.bool true)]⟩,
⟨155, 14, [.v (.c (.ptr 12 0)), .v (.c (i 14))], .tup [.agg [i 6, i 0, i 0], .c (.bool true)]⟩,
⟨155, 15, [.v (.c (.ptr 12 0)), .v (.c (i 15))], .tup [.agg [i 6, i 0, i 1], .c (.bool true)]⟩,
⟨155, 16, [.v (.c (.ptr 12 0)), .v (.c (i 16))], .tup [.agg [i 7, i 0, i 0], .c (.bool true)]⟩,
⟨155, 17, [.v (.c (.ptr 12 0)), .v (.c (i 17))], .tup [.agg [i 7, i 0, i 1], .c (.bool true)]⟩]⟩
private theorem m1_k : h1.tbl m1 = true := by kernel_rfl
private noncomputable def h2 : HK := h1.memo m1 m1_k
private noncomputable def s1 : RE := ⟨76, [.v (.c (.ptr 12 0))], 154, .v (.c (.ptr 154 0)), l2, 377⟩
private theorem s1_k : h2.srp l0 s1 = true := by kernel_rfl
private noncomputable def h3 : HK := h2.srep _ s1 s1_k
private noncomputable def s2 : RE := ⟨49, [.v (.c (.ptr 12 0)), .v (.c (.snil))], 154, .v (.c (.ptr 431 0)), l3, 5730⟩
private theorem s2_k : h3.rep l0 s2 = true := by kernel_rfl
private noncomputable def h4 : HK := h3.repl _ s2 s2_k
private noncomputable def s3 : RE := ⟨151, [.v (.c (.ptr 12 0)), .v (.c (.ptr 431 0)), .v (.c (i 2))], 5935, .v (.c (.snil)), [], 6112⟩
private theorem s3_k : h4.srp l4 s3 = true := by kernel_rfl
private noncomputable def h5 : HK := h4.srep _ s3 s3_k
private noncomputable def s4 : RE := ⟨151, [.v (.c (.ptr 12 0)), .v (.c (.ptr 431 0)), .v (.c (i 4))], 6128, .v (.c (.snil)), [], 6296⟩
private theorem s4_k : h5.srp l4 s4 = true := by kernel_rfl
private noncomputable def h6 : HK := h5.srep _ s4 s4_k
private noncomputable def s5 : RE := ⟨151, [.v (.c (.ptr 12 0)), .v (.c (.ptr 431 0)), .v (.c (i 6))], 6312, .v (.c (.snil)), [], 6471⟩
private theorem s5_k : h6.srp l4 s5 = true := by kernel_rfl
private noncomputable def h7 : HK := h6.srep _ s5 s5_k
private noncomputable def s6 : RE := ⟨151, [.v (.c (.ptr 12 0)), .v (.c (.ptr 431 0)), .v (.c (i 8))], 6487, .v (.c (.snil)), [], 6637⟩
private theorem s6_k : h7.srp l4 s6 = true := by kernel_rfl
private noncomputable def h8 : HK := h7.srep _ s6 s6_k
private noncomputable def s7 : RE := ⟨151, [.v (.c (.ptr 12 0)), .v (.c (.ptr 431 0)), .v (.c (i 10))], 6653, .v (.c (.snil)), [], 6794⟩
private theorem s7_k : h8.srp l4 s7 = true := by kernel_rfl
private noncomputable def h9 : HK := h8.srep _ s7 s7_k
private noncomputable def s8 : RE := ⟨151, [.v (.c (.ptr 12 0)), .v (.c (.ptr 431 0)), .v (.c (i 12))], 6810, .v (.c (.snil)), [], 6942⟩
private theorem s8_k : h9.srp l4 s8 = true := by kernel_rfl
private noncomputable def h10 : HK := h9.srep _ s8 s8_k
private noncomputable def s9 : RE := ⟨151, [.v (.c (.ptr 12 0)), .v (.c (.ptr 431 0)), .v (.c (i 14))], 6958, .v (.c (.snil)), [], 7081⟩
private theorem s9_k : h10.srp l4 s9 = true := by kernel_rfl
private noncomputable def h11 : HK := h10.srep _ s9 s9_k
private noncomputable def s10 : RE := ⟨85, [.v (.c (.ptr 12 0)), .v (.c (.ptr 431 0)), .v (.c (i 0))], 7123, .v (.c (.snil)), [], 7486⟩
private theorem s10_k : h11.srp l4 s10 = true := by kernel_rfl
private noncomputable def h12 : HK := h11.srep _ s10 s10_k
private noncomputable def s11 : RE := ⟨86, [.v (.c (.ptr 12 0)), .v (.c (.ptr 431 0)), .v (.c (i 0))], 7488, .v (.c (.snil)), [], 7667⟩
private theorem s11_k : h12.srp l4 s11 = true := by kernel_rfl
private noncomputable def h13 : HK := h12.srep _ s11 s11_k
private noncomputable def s12 : RE := ⟨85, [.v (.c (.ptr 12 0)), .v (.c (.ptr 431 0)), .v (.c (i 1))], 7669, .v (.c (.snil)), [], 7998⟩
private theorem s12_k : h13.srp l4 s12 = true := by kernel_rfl
private noncomputable def h14 : HK := h13.srep _ s12 s12_k
private noncomputable def s13 : RE := ⟨86, [.v (.c (.ptr 12 0)), .v (.c (.ptr 431 0)), .v (.c (i 1))], 8000, .v (.c (.snil)), [], 8162⟩
private theorem s13_k : h14.srp l4 s13 = true := by kernel_rfl
private noncomputable def h15 : HK := h14.srep _ s13 s13_k
private noncomputable def s14 : RE := ⟨85, [.v (.c (.ptr 12 0)), .v (.c (.ptr 431 0)), .v (.c (i 2))], 8164, .v (.c (.snil)), [], 8475⟩
private theorem s14_k : h15.srp l4 s14 = true := by kernel_rfl
private noncomputable def h16 : HK := h15.srep _ s14 s14_k
private noncomputable def s15 : RE := ⟨86, [.v (.c (.ptr 12 0)), .v (.c (.ptr 431 0)), .v (.c (i 2))], 8477, .v (.c (.snil)), [], 8630⟩
private theorem s15_k : h16.srp l4 s15 = true := by kernel_rfl
private noncomputable def h17 : HK := h16.srep _ s15 s15_k
private noncomputable def s16 : RE := ⟨85, [.v (.c (.ptr 12 0)), .v (.c (.ptr 431 0)), .v (.c (i 3))], 8632, .v (.c (.snil)), [], 8925⟩
private theorem s16_k : h17.srp l4 s16 = true := by kernel_rfl
private noncomputable def h18 : HK := h17.srep _ s16 s16_k
private noncomputable def s17 : RE := ⟨86, [.v (.c (.ptr 12 0)), .v (.c (.ptr 431 0)), .v (.c (i 3))], 8927, .v (.c (.snil)), [], 9071⟩
private theorem s17_k : h18.srp l4 s17 = true := by kernel_rfl
private noncomputable def h19 : HK := h18.srep _ s17 s17_k
private noncomputable def s18 : RE := ⟨85, [.v (.c (.ptr 12 0)), .v (.c (.ptr 431 0)), .v (.c (i 4))], 9073, .v (.c (.snil)), [], 9348⟩
private theorem s18_k : h19.srp l4 s18 = true := by kernel_rfl
private noncomputable def h20 : HK := h19.srep _ s18 s18_k
private noncomputable def s19 : RE := ⟨86, [.v (.c (.ptr 12 0)), .v (.c (.ptr 431 0)), .v (.c (i 4))], 9350, .v (.c (.snil)), [], 9485⟩
private theorem s19_k : h20.srp l4 s19 = true := by kernel_rfl
private noncomputable def h21 : HK := h20.srep _ s19 s19_k
private noncomputable def s20 : RE := ⟨85, [.v (.c (.ptr 12 0)), .v (.c (.ptr 431 0)), .v (.c (i 5))], 9487, .v (.c (.snil)), [], 9744⟩
private theorem s20_k : h21.srp l4 s20 = true := by kernel_rfl
private noncomputable def h22 : HK := h21.srep _ s20 s20_k
private noncomputable def s21 : RE := ⟨86, [.v (.c (.ptr 12 0)), .v (.c (.ptr 431 0)), .v (.c (i 5))], 9746, .v (.c (.snil)), [], 9872⟩
private theorem s21_k : h22.srp l4 s21 = true := by kernel_rfl
private noncomputable def h23 : HK := h22.srep _ s21 s21_k
private noncomputable def s22 : RE := ⟨85, [.v (.c (.ptr 12 0)), .v (.c (.ptr 431 0)), .v (.c (i 6))], 9874, .v (.c (.snil)), [], 10113⟩
private theorem s22_k : h23.srp l4 s22 = true := by kernel_rfl
private noncomputable def h24 : HK := h23.srep _ s22 s22_k
private noncomputable def s23 : RE := ⟨86, [.v (.c (.ptr 12 0)), .v (.c (.ptr 431 0)), .v (.c (i 6))], 10115, .v (.c (.snil)), [], 10232⟩
private theorem s23_k : h24.srp l4 s23 = true := by kernel_rfl
private noncomputable def h25 : HK := h24.srep _ s23 s23_k
private noncomputable def s24 : RE := ⟨85, [.v (.c (.ptr 12 0)), .v (.c (.ptr 431 0)), .v (.c (i 7))], 10234, .v (.c (.snil)), [], 10455⟩
private theorem s24_k : h25.srp l4 s24 = true := by kernel_rfl
private noncomputable def h26 : HK := h25.srep _ s24 s24_k
private noncomputable def s25 : RE := ⟨86, [.v (.c (.ptr 12 0)), .v (.c (.ptr 431 0)), .v (.c (i 7))], 10457, .v (.c (.snil)), [], 10565⟩
private theorem s25_k : h26.srp l4 s25 = true := by kernel_rfl
private noncomputable def h27 : HK := h26.srep _ s25 s25_k
private noncomputable def s26 : RE := ⟨50, [.v (.c (.ptr 12 0)), .v (.c (.ptr 431 0))], 5730, .v (.c (.ptr 7121 0)), l5, 11074⟩
private theorem s26_k : h27.rep l4 s26 = true := by kernel_rfl
private noncomputable def h28 : HK := h27.repl _ s26 s26_k
theorem TopNilParam_6_t_run : isBool true (runW h28.K 12 [mi 8 6, ab true] s0) = true := by kernel_rfl
theorem TopNilParam_6_t_law {args : Array Value} (ha : VAs (fun _ => none) [mi 8 6, ab true] args.toList) (w : World) (hT : Tab w) :
    Calls Tryz.prog 12 args w fun e w' => Below w.heap.size w w' ∧ e = .returned (.bool true) := h28.law TopNilParam_6_t_run ha w hT
end Go.Proofs.YteajpblmbmncdaaGreatDoor
