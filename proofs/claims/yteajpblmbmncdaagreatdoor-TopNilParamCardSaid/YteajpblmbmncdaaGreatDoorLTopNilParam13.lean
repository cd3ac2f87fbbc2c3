/- Tables of calls, and a run that uses them. -/
import Derived.Test.YteajpblmbmncdaaGreatDoorLn
namespace Go.Proofs.YteajpblmbmncdaaGreatDoor
open Go Go.RowKit Ev
set_option maxRecDepth 100000
set_option linter.unusedVariables false
private noncomputable abbrev i (n : Nat) : CV := .int .i64 (.ofNat n)
private noncomputable abbrev o (b a n : Nat) : CV := .slice b a n (.opn 0)
private noncomputable abbrev f (b a n : Nat) : CV := .slice b a n (.fix n)
private noncomputable abbrev e (k t : Nat) : Nat × BK := (k, ⟨[.snil], t, 0, none⟩)
private noncomputable abbrev l0 : Bls := [(1, ⟨[i 0, i 0, i 0, i 0, i 1, i 0], 69, 0, none⟩),
(2, ⟨[f 1 0 3], 47, 0, none⟩),
(4, ⟨[i 1, i 0], 69, 0, none⟩),
(5, ⟨[i 0, i 0], 69, 0, none⟩),
(7, ⟨[i 1, i 0], 69, 0, none⟩),
(9, ⟨[.snil, i 0, i 0, f 4 0 1, i 0, i 0, f 5 0 1, i 0, i 0, f 7 0 1, i 1, i 0], 72, 0, none⟩),
(10, ⟨[i 0], 3, 0, none⟩),
(11, ⟨[f 10 0 1], 74, 0, none⟩),
(12, ⟨[f 2 0 1, f 9 0 4, f 11 0 1, .snil, o 110 0 8, i 0], 57, 0, none⟩),
(20, ⟨[i 0, i 0, i 1, i 0], 69, 2, none⟩),
(21, ⟨[o 30 0 3, i 3, i 0, i 0, i 0], 46, 0, none⟩),
(27, ⟨[i 1], 3, 0, none⟩),
(30, ⟨[i 1, i 0, i 0, i 0, i 1, .snil, i 5, i 1, i 0, i 0, i 0, .snil, i 12, i 0, i 0, i 0, i 1, f 27 0 1], 29, 6, none⟩),
(35, ⟨[i 1, i 0, i 0, i 0], 69, 2, none⟩),
(36, ⟨[o 42 0 1, i 3, i 1, i 0, i 0], 46, 0, none⟩),
(39, ⟨[i 0], 3, 0, none⟩),
(42, ⟨[i 12, i 1, i 0, i 0, i 2, f 39 0 1], 29, 6, none⟩),
(47, ⟨[i 1, i 0, i 0, i 0], 69, 2, none⟩),
(48, ⟨[o 54 0 1, i 3, i 1, i 0, i 0], 46, 0, none⟩),
(51, ⟨[i 0], 3, 0, none⟩),
(54, ⟨[i 12, i 1, i 0, i 0, i 3, f 51 0 1], 29, 6, none⟩),
(59, ⟨[i 1, i 0, i 0, i 0], 69, 2, none⟩),
(60, ⟨[o 66 0 1, i 3, i 1, i 0, i 0], 46, 0, none⟩),
(63, ⟨[i 0], 3, 0, none⟩),
(66, ⟨[i 12, i 1, i 0, i 0, i 4, f 63 0 1], 29, 6, none⟩),
(71, ⟨[i 1, i 0, i 0, i 0], 69, 2, none⟩),
(72, ⟨[o 78 0 1, i 3, i 1, i 0, i 0], 46, 0, none⟩),
(75, ⟨[i 0], 3, 0, none⟩),
(78, ⟨[i 12, i 1, i 0, i 0, i 5, f 75 0 1], 29, 6, none⟩),
(83, ⟨[i 1, i 0, i 0, i 0], 69, 2, none⟩),
(84, ⟨[o 90 0 1, i 3, i 1, i 0, i 0], 46, 0, none⟩),
(87, ⟨[i 0], 3, 0, none⟩),
(90, ⟨[i 12, i 1, i 0, i 0, i 6, f 87 0 1], 29, 6, none⟩),
(95, ⟨[i 1, i 0, i 0, i 0], 69, 2, none⟩),
(96, ⟨[o 102 0 1, i 3, i 1, i 0, i 0], 46, 0, none⟩),
(99, ⟨[i 0], 3, 0, none⟩),
(102, ⟨[i 12, i 1, i 0, i 0, i 7, f 99 0 1], 29, 6, none⟩),
(107, ⟨[i 1, i 0, i 0, i 0], 69, 2, none⟩),
(108, ⟨[o 113 0 1, i 3, i 1, i 0, i 0], 46, 0, none⟩),
(110, ⟨[i 0, o 20 0 2, f 21 0 1, i 1, o 35 0 2, f 36 0 1, i 1, o 47 0 2, f 48 0 1, i 1, o 59 0 2, f 60 0 1, i 1, o 71 0 2, f 72 0 1, i 1, o 83 0 2, f 84 0 1, i 1, o 95 0 2, f 96 0 1, i 1, o 107 0 2, f 108 0 1], 50, 3, none⟩),
(113, ⟨[i 7, i 1, i 0, i 0, i 0, .snil], 29, 6, none⟩)]
private noncomputable abbrev l1 : Bls := [(12, ⟨[f 2 0 1, f 9 0 4, f 11 0 1, .snil, o 110 0 8, i 0], 57, 0, none⟩),
(21, ⟨[o 30 0 3, i 3, i 0, i 0, i 0], 46, 0, none⟩),
(36, ⟨[o 42 0 1, i 3, i 1, i 0, i 0], 46, 0, none⟩),
(48, ⟨[o 54 0 1, i 3, i 1, i 0, i 0], 46, 0, none⟩),
(60, ⟨[o 66 0 1, i 3, i 1, i 0, i 0], 46, 0, none⟩),
(72, ⟨[o 78 0 1, i 3, i 1, i 0, i 0], 46, 0, none⟩),
(84, ⟨[o 90 0 1, i 3, i 1, i 0, i 0], 46, 0, none⟩),
(96, ⟨[o 102 0 1, i 3, i 1, i 0, i 0], 46, 0, none⟩),
(108, ⟨[o 113 0 1, i 3, i 1, i 0, i 0], 46, 0, none⟩),
(110, ⟨[i 0, o 20 0 2, f 21 0 1, i 1, o 35 0 2, f 36 0 1, i 1, o 47 0 2, f 48 0 1, i 1, o 59 0 2, f 60 0 1, i 1, o 71 0 2, f 72 0 1, i 1, o 83 0 2, f 84 0 1, i 1, o 95 0 2, f 96 0 1, i 1, o 107 0 2, f 108 0 1], 50, 3, none⟩)]
private noncomputable abbrev l2 : Bls := [(114, ⟨[o 206 0 8, o 210 0 8, o 269 0 1, o 258 0 1, o 260 0 1, i 27], 230, 0, none⟩),
(120, ⟨[i 0, i 1], 3, 1, none⟩),
(132, ⟨[i 3, i 4], 3, 1, none⟩),
(144, ⟨[i 6, i 7], 3, 1, none⟩),
(156, ⟨[i 9, i 10], 3, 1, none⟩),
(168, ⟨[i 12, i 13], 3, 1, none⟩),
(180, ⟨[i 15, i 16], 3, 1, none⟩),
(192, ⟨[i 18, i 19], 3, 1, none⟩),
(204, ⟨[i 21, i 22], 3, 1, none⟩),
(206, ⟨[o 120 0 2, o 132 0 2, o 144 0 2, o 156 0 2, o 168 0 2, o 180 0 2, o 192 0 2, o 204 0 2], 27, 1, none⟩),
(210, ⟨[i 2, i 5, i 8, i 11, i 14, i 17, i 20, i 23], 3, 1, none⟩),
(258, ⟨[i 1], 3, 1, none⟩),
(260, ⟨[i 0], 3, 1, none⟩),
(267, ⟨[i 24, i 25, i 26], 3, 1, none⟩),
(269, ⟨[o 267 0 3], 27, 1, none⟩)]
private noncomputable abbrev l3 : Bls := [(114, ⟨[o 206 0 8, o 210 0 8, o 269 0 1, o 258 0 1, o 260 0 1, i 27], 230, 0, none⟩),
(120, ⟨[i 0, i 1], 3, 1, none⟩),
(132, ⟨[i 3, i 4], 3, 1, none⟩),
(144, ⟨[i 6, i 7], 3, 1, none⟩),
(156, ⟨[i 9, i 10], 3, 1, none⟩),
(168, ⟨[i 12, i 13], 3, 1, none⟩),
(180, ⟨[i 15, i 16], 3, 1, none⟩),
(192, ⟨[i 18, i 19], 3, 1, none⟩),
(204, ⟨[i 21, i 22], 3, 1, none⟩),
(206, ⟨[o 120 0 2, o 132 0 2, o 144 0 2, o 156 0 2, o 168 0 2, o 180 0 2, o 192 0 2, o 204 0 2], 27, 1, none⟩),
(210, ⟨[i 2, i 5, i 8, i 11, i 14, i 17, i 20, i 23], 3, 1, none⟩),
(258, ⟨[i 1], 3, 1, none⟩),
(260, ⟨[i 0], 3, 1, none⟩),
(267, ⟨[i 24, i 25, i 26], 3, 1, none⟩),
(269, ⟨[o 267 0 3], 27, 1, none⟩),
(350, ⟨[o 404 0 27], 233, 0, none⟩),
(404, ⟨[i 0, i 1, i 2, i 3, i 4, i 5, i 6, i 7, i 8, i 9, i 10, i 11, i 12, i 13, i 14, i 15, i 16, i 17, i 18, i 19, i 20, i 21, i 22, i 23, i 24, i 25, i 26], 3, 1, none⟩),
(405, ⟨[.snil, .snil, .snil, .snil, .snil, .snil, .snil, .snil, .snil, .snil, .snil, .snil, .snil, .snil, .snil, .snil, .snil, .snil, .snil, .snil, .snil, .snil, .snil, .snil, .snil, .snil, .snil], 238, 0, none⟩),
(406, ⟨[o 655 0 1], 139, 0, none⟩),
(407, ⟨[], 0, 0, some (.map [(0, .agg [i 2, i 1], .c (.bool true)), (1, .agg [i 4, i 2], .c (.bool true)), (2, .agg [i 6, i 3], .c (.bool true)), (3, .agg [i 8, i 4], .c (.bool true)), (4, .agg [i 10, i 5], .c (.bool true)), (5, .agg [i 12, i 6], .c (.bool true)), (6, .agg [i 14, i 7], .c (.bool true))] 7)⟩),
(408, ⟨[], 0, 0, some (.map [] 8)⟩),
(409, ⟨[.snil, o 4865 0 0, .map 408, i 8], 237, 0, none⟩),
(410, ⟨[.ptr 12 0, .ptr 114 0, .ptr 350 0, o 647 0 27, o 650 0 27, o 653 0 27, f 405 0 27, .ptr 406 0, .map 407, .ptr 409 0], 145, 0, none⟩),
e 411 139,
e 414 139,
e 417 139,
(420, ⟨[o 991 0 1], 139, 0, none⟩),
(426, ⟨[o 997 0 1], 139, 0, none⟩),
e 429 139,
e 432 139,
e 435 139,
(438, ⟨[o 999 0 1], 139, 0, none⟩),
(444, ⟨[o 1616 0 1], 139, 0, none⟩),
e 447 139,
e 450 139,
e 453 139,
e 456 139,
e 459 139,
e 462 139,
(465, ⟨[o 1618 0 1], 139, 0, none⟩),
(471, ⟨[o 2245 0 1], 139, 0, none⟩),
e 474 139,
e 477 139,
e 480 139,
e 483 139,
e 486 139,
e 489 139,
(492, ⟨[o 2247 0 1], 139, 0, none⟩),
(498, ⟨[o 2884 0 1], 139, 0, none⟩),
e 501 139,
e 504 139,
e 507 139,
e 510 139,
e 513 139,
e 516 139,
(519, ⟨[o 2886 0 1], 139, 0, none⟩),
(525, ⟨[o 3533 0 1], 139, 0, none⟩),
e 528 139,
e 531 139,
e 534 139,
e 537 139,
e 540 139,
e 543 139,
(546, ⟨[o 3535 0 1], 139, 0, none⟩),
(552, ⟨[o 4192 0 1], 139, 0, none⟩),
e 555 139,
e 558 139,
e 561 139,
e 564 139,
e 567 139,
e 570 139,
(573, ⟨[o 4194 0 1], 139, 0, none⟩),
(579, ⟨[o 4861 0 1], 139, 0, none⟩),
e 582 139,
e 585 139,
e 588 139,
e 591 139,
e 594 139,
e 597 139,
(600, ⟨[o 4863 0 1], 139, 0, none⟩),
e 606 139,
e 609 139,
e 612 139,
e 615 139,
e 618 139,
e 621 139,
e 624 139,
e 627 139,
e 630 139,
e 633 139,
e 636 139,
e 639 139,
e 642 139,
e 645 139,
(647, ⟨[.ptr 411 0, .ptr 420 0, .ptr 429 0, .ptr 438 0, .ptr 447 0, .ptr 456 0, .ptr 465 0, .ptr 474 0, .ptr 483 0, .ptr 492 0, .ptr 501 0, .ptr 510 0, .ptr 519 0, .ptr 528 0, .ptr 537 0, .ptr 546 0, .ptr 555 0, .ptr 564 0, .ptr 573 0, .ptr 582 0, .ptr 591 0, .ptr 600 0, .ptr 609 0, .ptr 618 0, .ptr 627 0, .ptr 636 0, .ptr 645 0], 136, 1, none⟩),
e 648 139,
(650, ⟨[.ptr 414 0, .ptr 5978 0, .ptr 432 0, .ptr 5986 0, .ptr 450 0, .ptr 459 0, .ptr 5994 0, .ptr 477 0, .ptr 486 0, .ptr 6002 0, .ptr 504 0, .ptr 513 0, .ptr 6010 0, .ptr 531 0, .ptr 540 0, .ptr 6018 0, .ptr 558 0, .ptr 567 0, .ptr 6026 0, .ptr 585 0, .ptr 594 0, .ptr 6034 0, .ptr 612 0, .ptr 621 0, .ptr 630 0, .ptr 639 0, .ptr 648 0], 136, 1, none⟩),
e 651 139,
(653, ⟨[.ptr 417 0, .ptr 426 0, .ptr 435 0, .ptr 444 0, .ptr 453 0, .ptr 462 0, .ptr 471 0, .ptr 480 0, .ptr 489 0, .ptr 498 0, .ptr 507 0, .ptr 516 0, .ptr 525 0, .ptr 534 0, .ptr 543 0, .ptr 552 0, .ptr 561 0, .ptr 570 0, .ptr 579 0, .ptr 588 0, .ptr 597 0, .ptr 606 0, .ptr 615 0, .ptr 624 0, .ptr 633 0, .ptr 642 0, .ptr 651 0], 136, 1, none⟩),
(655, ⟨[.int .u64 (.ofNat 255)], 224, 1, none⟩),
(991, ⟨[.int .u64 (.ofNat 1)], 224, 1, none⟩),
(997, ⟨[.int .u64 (.ofNat 8)], 224, 1, none⟩),
(999, ⟨[.int .u64 (.ofNat 1)], 224, 1, none⟩),
(1616, ⟨[.int .u64 (.ofNat 64)], 224, 1, none⟩),
(1618, ⟨[.int .u64 (.ofNat 1)], 224, 1, none⟩),
(2245, ⟨[.int .u64 (.ofNat 512)], 224, 1, none⟩),
(2247, ⟨[.int .u64 (.ofNat 1)], 224, 1, none⟩),
(2884, ⟨[.int .u64 (.ofNat 4096)], 224, 1, none⟩),
(2886, ⟨[.int .u64 (.ofNat 1)], 224, 1, none⟩),
(3533, ⟨[.int .u64 (.ofNat 32768)], 224, 1, none⟩),
(3535, ⟨[.int .u64 (.ofNat 1)], 224, 1, none⟩),
(4192, ⟨[.int .u64 (.ofNat 262144)], 224, 1, none⟩),
(4194, ⟨[.int .u64 (.ofNat 1)], 224, 1, none⟩),
(4861, ⟨[.int .u64 (.ofNat 2097152)], 224, 1, none⟩),
(4863, ⟨[.int .u64 (.ofNat 1)], 224, 1, none⟩),
(4865, ⟨[i 0, i 0, i 0, i 0, i 0, i 0, i 0, i 0], 3, 1, none⟩),
(5977, ⟨[.int .u64 (.ofNat 1)], 224, 1, none⟩),
(5978, ⟨[o 5977 0 1], 139, 0, none⟩),
(5985, ⟨[.int .u64 (.ofNat 1)], 224, 1, none⟩),
(5986, ⟨[o 5985 0 1], 139, 0, none⟩),
(5993, ⟨[.int .u64 (.ofNat 1)], 224, 1, none⟩),
(5994, ⟨[o 5993 0 1], 139, 0, none⟩),
(6001, ⟨[.int .u64 (.ofNat 1)], 224, 1, none⟩),
(6002, ⟨[o 6001 0 1], 139, 0, none⟩),
(6009, ⟨[.int .u64 (.ofNat 1)], 224, 1, none⟩),
(6010, ⟨[o 6009 0 1], 139, 0, none⟩),
(6017, ⟨[.int .u64 (.ofNat 1)], 224, 1, none⟩),
(6018, ⟨[o 6017 0 1], 139, 0, none⟩),
(6025, ⟨[.int .u64 (.ofNat 1)], 224, 1, none⟩),
(6026, ⟨[o 6025 0 1], 139, 0, none⟩),
(6033, ⟨[.int .u64 (.ofNat 1)], 224, 1, none⟩),
(6034, ⟨[o 6033 0 1], 139, 0, none⟩)]
private noncomputable abbrev l4 : Bls := [(1, ⟨[i 0, i 0, i 0, i 0, i 1, i 0], 69, 0, none⟩),
(2, ⟨[f 1 0 3], 47, 0, none⟩),
(4, ⟨[i 1, i 0], 69, 0, none⟩),
(5, ⟨[i 0, i 0], 69, 0, none⟩),
(7, ⟨[i 1, i 0], 69, 0, none⟩),
(9, ⟨[.snil, i 0, i 0, f 4 0 1, i 0, i 0, f 5 0 1, i 0, i 0, f 7 0 1, i 1, i 0], 72, 0, none⟩),
(10, ⟨[i 0], 3, 0, none⟩),
(11, ⟨[f 10 0 1], 74, 0, none⟩),
(12, ⟨[f 2 0 1, f 9 0 4, f 11 0 1, .snil, o 110 0 8, i 0], 57, 0, none⟩),
(20, ⟨[i 0, i 0, i 1, i 0], 69, 2, none⟩),
(21, ⟨[o 30 0 3, i 3, i 0, i 0, i 0], 46, 0, none⟩),
(27, ⟨[i 1], 3, 0, none⟩),
(30, ⟨[i 1, i 0, i 0, i 0, i 1, .snil, i 5, i 1, i 0, i 0, i 0, .snil, i 12, i 0, i 0, i 0, i 1, f 27 0 1], 29, 6, none⟩),
(35, ⟨[i 1, i 0, i 0, i 0], 69, 2, none⟩),
(36, ⟨[o 42 0 1, i 3, i 1, i 0, i 0], 46, 0, none⟩),
(39, ⟨[i 0], 3, 0, none⟩),
(42, ⟨[i 12, i 1, i 0, i 0, i 2, f 39 0 1], 29, 6, none⟩),
(47, ⟨[i 1, i 0, i 0, i 0], 69, 2, none⟩),
(48, ⟨[o 54 0 1, i 3, i 1, i 0, i 0], 46, 0, none⟩),
(51, ⟨[i 0], 3, 0, none⟩),
(54, ⟨[i 12, i 1, i 0, i 0, i 3, f 51 0 1], 29, 6, none⟩),
(59, ⟨[i 1, i 0, i 0, i 0], 69, 2, none⟩),
(60, ⟨[o 66 0 1, i 3, i 1, i 0, i 0], 46, 0, none⟩),
(63, ⟨[i 0], 3, 0, none⟩),
(66, ⟨[i 12, i 1, i 0, i 0, i 4, f 63 0 1], 29, 6, none⟩),
(71, ⟨[i 1, i 0, i 0, i 0], 69, 2, none⟩),
(72, ⟨[o 78 0 1, i 3, i 1, i 0, i 0], 46, 0, none⟩),
(75, ⟨[i 0], 3, 0, none⟩),
(78, ⟨[i 12, i 1, i 0, i 0, i 5, f 75 0 1], 29, 6, none⟩),
(83, ⟨[i 1, i 0, i 0, i 0], 69, 2, none⟩),
(84, ⟨[o 90 0 1, i 3, i 1, i 0, i 0], 46, 0, none⟩),
(87, ⟨[i 0], 3, 0, none⟩),
(90, ⟨[i 12, i 1, i 0, i 0, i 6, f 87 0 1], 29, 6, none⟩),
(95, ⟨[i 1, i 0, i 0, i 0], 69, 2, none⟩),
(96, ⟨[o 102 0 1, i 3, i 1, i 0, i 0], 46, 0, none⟩),
(99, ⟨[i 0], 3, 0, none⟩),
(102, ⟨[i 12, i 1, i 0, i 0, i 7, f 99 0 1], 29, 6, none⟩),
(107, ⟨[i 1, i 0, i 0, i 0], 69, 2, none⟩),
(108, ⟨[o 113 0 1, i 3, i 1, i 0, i 0], 46, 0, none⟩),
(110, ⟨[i 0, o 20 0 2, f 21 0 1, i 1, o 35 0 2, f 36 0 1, i 1, o 47 0 2, f 48 0 1, i 1, o 59 0 2, f 60 0 1, i 1, o 71 0 2, f 72 0 1, i 1, o 83 0 2, f 84 0 1, i 1, o 95 0 2, f 96 0 1, i 1, o 107 0 2, f 108 0 1], 50, 3, none⟩),
(113, ⟨[i 7, i 1, i 0, i 0, i 0, .snil], 29, 6, none⟩),
(114, ⟨[o 206 0 8, o 210 0 8, o 269 0 1, o 258 0 1, o 260 0 1, i 27], 230, 0, none⟩),
(120, ⟨[i 0, i 1], 3, 1, none⟩),
(132, ⟨[i 3, i 4], 3, 1, none⟩),
(144, ⟨[i 6, i 7], 3, 1, none⟩),
(156, ⟨[i 9, i 10], 3, 1, none⟩),
(168, ⟨[i 12, i 13], 3, 1, none⟩),
(180, ⟨[i 15, i 16], 3, 1, none⟩),
(192, ⟨[i 18, i 19], 3, 1, none⟩),
(204, ⟨[i 21, i 22], 3, 1, none⟩),
(206, ⟨[o 120 0 2, o 132 0 2, o 144 0 2, o 156 0 2, o 168 0 2, o 180 0 2, o 192 0 2, o 204 0 2], 27, 1, none⟩),
(210, ⟨[i 2, i 5, i 8, i 11, i 14, i 17, i 20, i 23], 3, 1, none⟩),
(258, ⟨[i 1], 3, 1, none⟩),
(260, ⟨[i 0], 3, 1, none⟩),
(267, ⟨[i 24, i 25, i 26], 3, 1, none⟩),
(269, ⟨[o 267 0 3], 27, 1, none⟩),
(350, ⟨[o 404 0 27], 233, 0, none⟩),
(404, ⟨[i 0, i 1, i 2, i 3, i 4, i 5, i 6, i 7, i 8, i 9, i 10, i 11, i 12, i 13, i 14, i 15, i 16, i 17, i 18, i 19, i 20, i 21, i 22, i 23, i 24, i 25, i 26], 3, 1, none⟩),
(405, ⟨[.snil, .snil, .snil, .snil, .snil, .snil, .snil, .snil, .snil, .snil, .snil, .snil, .snil, .snil, .snil, .snil, .snil, .snil, .snil, .snil, .snil, .snil, .snil, .snil, .snil, .snil, .snil], 238, 0, none⟩),
(406, ⟨[o 655 0 1], 139, 0, none⟩),
(407, ⟨[], 0, 0, some (.map [(0, .agg [i 2, i 1], .c (.bool true)), (1, .agg [i 4, i 2], .c (.bool true)), (2, .agg [i 6, i 3], .c (.bool true)), (3, .agg [i 8, i 4], .c (.bool true)), (4, .agg [i 10, i 5], .c (.bool true)), (5, .agg [i 12, i 6], .c (.bool true)), (6, .agg [i 14, i 7], .c (.bool true))] 7)⟩),
(408, ⟨[], 0, 0, some (.map [] 8)⟩),
(409, ⟨[.snil, o 4865 0 0, .map 408, i 8], 237, 0, none⟩),
(410, ⟨[.ptr 12 0, .ptr 114 0, .ptr 350 0, o 647 0 27, o 650 0 27, o 653 0 27, f 405 0 27, .ptr 406 0, .map 407, .ptr 409 0], 145, 0, none⟩),
e 411 139,
e 414 139,
e 417 139,
(420, ⟨[o 991 0 1], 139, 0, none⟩),
(426, ⟨[o 997 0 1], 139, 0, none⟩),
e 429 139,
e 432 139,
e 435 139,
(438, ⟨[o 999 0 1], 139, 0, none⟩),
(444, ⟨[o 1616 0 1], 139, 0, none⟩),
e 447 139,
e 450 139,
e 453 139,
e 456 139,
e 459 139,
e 462 139,
(465, ⟨[o 1618 0 1], 139, 0, none⟩),
(471, ⟨[o 2245 0 1], 139, 0, none⟩),
e 474 139,
e 477 139,
e 480 139,
e 483 139,
e 486 139,
e 489 139,
(492, ⟨[o 2247 0 1], 139, 0, none⟩),
(498, ⟨[o 2884 0 1], 139, 0, none⟩),
e 501 139,
e 504 139,
e 507 139,
e 510 139,
e 513 139,
e 516 139,
(519, ⟨[o 2886 0 1], 139, 0, none⟩),
(525, ⟨[o 3533 0 1], 139, 0, none⟩),
e 528 139,
e 531 139,
e 534 139,
e 537 139,
e 540 139,
e 543 139,
(546, ⟨[o 3535 0 1], 139, 0, none⟩),
(552, ⟨[o 4192 0 1], 139, 0, none⟩),
e 555 139,
e 558 139,
e 561 139,
e 564 139,
e 567 139,
e 570 139,
(573, ⟨[o 4194 0 1], 139, 0, none⟩),
(579, ⟨[o 4861 0 1], 139, 0, none⟩),
e 582 139,
e 585 139,
e 588 139,
e 591 139,
e 594 139,
e 597 139,
(600, ⟨[o 4863 0 1], 139, 0, none⟩),
e 606 139,
e 609 139,
e 612 139,
e 615 139,
e 618 139,
e 621 139,
e 624 139,
e 627 139,
e 630 139,
e 633 139,
e 636 139,
e 639 139,
e 642 139,
e 645 139,
(647, ⟨[.ptr 411 0, .ptr 420 0, .ptr 429 0, .ptr 438 0, .ptr 447 0, .ptr 456 0, .ptr 465 0, .ptr 474 0, .ptr 483 0, .ptr 492 0, .ptr 501 0, .ptr 510 0, .ptr 519 0, .ptr 528 0, .ptr 537 0, .ptr 546 0, .ptr 555 0, .ptr 564 0, .ptr 573 0, .ptr 582 0, .ptr 591 0, .ptr 600 0, .ptr 609 0, .ptr 618 0, .ptr 627 0, .ptr 636 0, .ptr 645 0], 136, 1, none⟩),
e 648 139,
(650, ⟨[.ptr 414 0, .ptr 5978 0, .ptr 432 0, .ptr 5986 0, .ptr 450 0, .ptr 459 0, .ptr 5994 0, .ptr 477 0, .ptr 486 0, .ptr 6002 0, .ptr 504 0, .ptr 513 0, .ptr 6010 0, .ptr 531 0, .ptr 540 0, .ptr 6018 0, .ptr 558 0, .ptr 567 0, .ptr 6026 0, .ptr 585 0, .ptr 594 0, .ptr 6034 0, .ptr 612 0, .ptr 621 0, .ptr 630 0, .ptr 639 0, .ptr 648 0], 136, 1, none⟩),
e 651 139,
(653, ⟨[.ptr 417 0, .ptr 426 0, .ptr 435 0, .ptr 444 0, .ptr 453 0, .ptr 462 0, .ptr 471 0, .ptr 480 0, .ptr 489 0, .ptr 498 0, .ptr 507 0, .ptr 516 0, .ptr 525 0, .ptr 534 0, .ptr 543 0, .ptr 552 0, .ptr 561 0, .ptr 570 0, .ptr 579 0, .ptr 588 0, .ptr 597 0, .ptr 606 0, .ptr 615 0, .ptr 624 0, .ptr 633 0, .ptr 642 0, .ptr 651 0], 136, 1, none⟩),
(655, ⟨[.int .u64 (.ofNat 255)], 224, 1, none⟩),
(991, ⟨[.int .u64 (.ofNat 1)], 224, 1, none⟩),
(997, ⟨[.int .u64 (.ofNat 8)], 224, 1, none⟩),
(999, ⟨[.int .u64 (.ofNat 1)], 224, 1, none⟩),
(1616, ⟨[.int .u64 (.ofNat 64)], 224, 1, none⟩),
(1618, ⟨[.int .u64 (.ofNat 1)], 224, 1, none⟩),
(2245, ⟨[.int .u64 (.ofNat 512)], 224, 1, none⟩),
(2247, ⟨[.int .u64 (.ofNat 1)], 224, 1, none⟩),
(2884, ⟨[.int .u64 (.ofNat 4096)], 224, 1, none⟩),
(2886, ⟨[.int .u64 (.ofNat 1)], 224, 1, none⟩),
(3533, ⟨[.int .u64 (.ofNat 32768)], 224, 1, none⟩),
(3535, ⟨[.int .u64 (.ofNat 1)], 224, 1, none⟩),
(4192, ⟨[.int .u64 (.ofNat 262144)], 224, 1, none⟩),
(4194, ⟨[.int .u64 (.ofNat 1)], 224, 1, none⟩),
(4861, ⟨[.int .u64 (.ofNat 2097152)], 224, 1, none⟩),
(4863, ⟨[.int .u64 (.ofNat 1)], 224, 1, none⟩),
(4865, ⟨[i 0, i 0, i 0, i 0, i 0, i 0, i 0, i 0], 3, 1, none⟩),
(5977, ⟨[.int .u64 (.ofNat 1)], 224, 1, none⟩),
(5978, ⟨[o 5977 0 1], 139, 0, none⟩),
(5985, ⟨[.int .u64 (.ofNat 1)], 224, 1, none⟩),
(5986, ⟨[o 5985 0 1], 139, 0, none⟩),
(5993, ⟨[.int .u64 (.ofNat 1)], 224, 1, none⟩),
(5994, ⟨[o 5993 0 1], 139, 0, none⟩),
(6001, ⟨[.int .u64 (.ofNat 1)], 224, 1, none⟩),
(6002, ⟨[o 6001 0 1], 139, 0, none⟩),
(6009, ⟨[.int .u64 (.ofNat 1)], 224, 1, none⟩),
(6010, ⟨[o 6009 0 1], 139, 0, none⟩),
(6017, ⟨[.int .u64 (.ofNat 1)], 224, 1, none⟩),
(6018, ⟨[o 6017 0 1], 139, 0, none⟩),
(6025, ⟨[.int .u64 (.ofNat 1)], 224, 1, none⟩),
(6026, ⟨[o 6025 0 1], 139, 0, none⟩),
(6033, ⟨[.int .u64 (.ofNat 1)], 224, 1, none⟩),
(6034, ⟨[o 6033 0 1], 139, 0, none⟩)]
private noncomputable abbrev l5 : Bls := [(7440, ⟨[], 0, 0, some (.map [(0, .agg [i 4, i 0, i 0, i 1, i 0], .c (o 11042 0 1)), (1, .agg [i 4, i 0, i 0, i 1, i 1], .c (o 11057 0 1)), (2, .agg [i 4, i 0, i 0, i 1, i 2], .c (o 11072 0 1)), (3, .agg [i 1, i 1, i 0, i 0, i 0], .c (o 11108 0 1)), (4, .agg [i 5, i 1, i 0, i 0, i 0], .c (o 11113 0 1)), (5, .agg [i 3, i 1, i 0, i 1, i 0], .c (o 11170 0 2)), (6, .agg [i 1, i 2, i 0, i 0, i 0], .c (o 11153 0 1)), (7, .agg [i 3, i 1, i 0, i 1, i 1], .c (o 11187 0 1)), (8, .agg [i 3, i 1, i 0, i 1, i 2], .c (o 11204 0 1)), (9, .agg [i 2, i 1, i 0, i 0, i 0], .c (o 11233 0 1)), (10, .agg [i 5, i 2, i 0, i 0, i 0], .c (o 11238 0 1)), (11, .agg [i 4, i 1, i 0, i 1, i 0], .c (o 11291 0 2)), (12, .agg [i 1, i 4, i 0, i 0, i 0], .c (o 11276 0 1)), (13, .agg [i 2, i 2, i 0, i 0, i 0], .c (o 11320 0 1)), (14, .agg [i 5, i 3, i 0, i 0, i 0], .c (o 11325 0 1)), (15, .agg [i 4, i 2, i 0, i 1, i 0], .c (o 11378 0 2)), (16, .agg [i 1, i 6, i 0, i 0, i 0], .c (o 11363 0 1)), (17, .agg [i 2, i 3, i 0, i 0, i 0], .c (o 11407 0 1)), (18, .agg [i 5, i 4, i 0, i 0, i 0], .c (o 11412 0 1)), (19, .agg [i 4, i 3, i 0, i 1, i 0], .c (o 11465 0 2)), (20, .agg [i 1, i 8, i 0, i 0, i 0], .c (o 11450 0 1)), (21, .agg [i 2, i 4, i 0, i 0, i 0], .c (o 11494 0 1)), (22, .agg [i 5, i 5, i 0, i 0, i 0], .c (o 11499 0 1)), (23, .agg [i 4, i 4, i 0, i 1, i 0], .c (o 11552 0 2)), (24, .agg [i 1, i 10, i 0, i 0, i 0], .c (o 11537 0 1)), (25, .agg [i 2, i 5, i 0, i 0, i 0], .c (o 11581 0 1)), (26, .agg [i 5, i 6, i 0, i 0, i 0], .c (o 11586 0 1)), (27, .agg [i 4, i 5, i 0, i 1, i 0], .c (o 11639 0 2)), (28, .agg [i 1, i 12, i 0, i 0, i 0], .c (o 11624 0 1)), (29, .agg [i 2, i 6, i 0, i 0, i 0], .c (o 11668 0 1)), (30, .agg [i 5, i 7, i 0, i 0, i 0], .c (o 11673 0 1)), (31, .agg [i 4, i 6, i 0, i 1, i 0], .c (o 11726 0 2)), (32, .agg [i 1, i 14, i 0, i 0, i 0], .c (o 11711 0 1)), (33, .agg [i 4, i 7, i 0, i 1, i 0], .c (o 11794 0 2)), (34, .agg [i 1, i 16, i 0, i 0, i 0], .c (o 11779 0 1))] 35)⟩),
(7441, ⟨[.map 7440, .md 1 (.ofNat 0) true], 155, 0, none⟩),
(11042, ⟨[i 3, i 1, i 0, i 1, i 0], 116, 5, none⟩),
(11057, ⟨[i 3, i 1, i 0, i 1, i 1], 116, 5, none⟩),
(11072, ⟨[i 3, i 1, i 0, i 1, i 2], 116, 5, none⟩),
(11108, ⟨[i 2, i 1, i 0, i 0, i 0], 116, 5, none⟩),
(11113, ⟨[i 1, i 2, i 0, i 0, i 0], 116, 5, none⟩),
(11153, ⟨[i 5, i 0, i 0, i 0, i 0], 116, 5, none⟩),
(11170, ⟨[i 4, i 1, i 0, i 1, i 0, i 6, i 0, i 0, i 1, i 0], 116, 5, none⟩),
(11187, ⟨[i 6, i 0, i 0, i 1, i 1], 116, 5, none⟩),
(11204, ⟨[i 6, i 0, i 0, i 1, i 2], 116, 5, none⟩),
(11233, ⟨[i 2, i 2, i 0, i 0, i 0], 116, 5, none⟩),
(11238, ⟨[i 1, i 4, i 0, i 0, i 0], 116, 5, none⟩),
(11276, ⟨[i 5, i 1, i 0, i 0, i 0], 116, 5, none⟩),
(11291, ⟨[i 4, i 2, i 0, i 1, i 0, i 6, i 1, i 0, i 1, i 0], 116, 5, none⟩),
(11320, ⟨[i 2, i 3, i 0, i 0, i 0], 116, 5, none⟩),
(11325, ⟨[i 1, i 6, i 0, i 0, i 0], 116, 5, none⟩),
(11363, ⟨[i 5, i 2, i 0, i 0, i 0], 116, 5, none⟩),
(11378, ⟨[i 4, i 3, i 0, i 1, i 0, i 6, i 2, i 0, i 1, i 0], 116, 5, none⟩),
(11407, ⟨[i 2, i 4, i 0, i 0, i 0], 116, 5, none⟩),
(11412, ⟨[i 1, i 8, i 0, i 0, i 0], 116, 5, none⟩),
(11450, ⟨[i 5, i 3, i 0, i 0, i 0], 116, 5, none⟩),
(11465, ⟨[i 4, i 4, i 0, i 1, i 0, i 6, i 3, i 0, i 1, i 0], 116, 5, none⟩),
(11494, ⟨[i 2, i 5, i 0, i 0, i 0], 116, 5, none⟩),
(11499, ⟨[i 1, i 10, i 0, i 0, i 0], 116, 5, none⟩),
(11537, ⟨[i 5, i 4, i 0, i 0, i 0], 116, 5, none⟩),
(11552, ⟨[i 4, i 5, i 0, i 1, i 0, i 6, i 4, i 0, i 1, i 0], 116, 5, none⟩),
(11581, ⟨[i 2, i 6, i 0, i 0, i 0], 116, 5, none⟩),
(11586, ⟨[i 1, i 12, i 0, i 0, i 0], 116, 5, none⟩),
(11624, ⟨[i 5, i 5, i 0, i 0, i 0], 116, 5, none⟩),
(11639, ⟨[i 4, i 6, i 0, i 1, i 0, i 6, i 5, i 0, i 1, i 0], 116, 5, none⟩),
(11668, ⟨[i 2, i 7, i 0, i 0, i 0], 116, 5, none⟩),
(11673, ⟨[i 1, i 14, i 0, i 0, i 0], 116, 5, none⟩),
(11711, ⟨[i 5, i 6, i 0, i 0, i 0], 116, 5, none⟩),
(11726, ⟨[i 4, i 7, i 0, i 1, i 0, i 6, i 6, i 0, i 1, i 0], 116, 5, none⟩),
(11779, ⟨[i 5, i 7, i 0, i 0, i 0], 116, 5, none⟩),
(11794, ⟨[i 1, i 16, i 0, i 0, i 0, i 6, i 7, i 0, i 1, i 0], 116, 5, none⟩)]
private noncomputable def m0 : MM := ⟨[48], l0, 114, [⟨48, 0, [.v (.c (.ptr 12 0))], .v (.c (.nili))⟩]⟩
private theorem m0_k : H0.tbl m0 = true := by kernel_rfl
private noncomputable def h1 : HK := H0.memo m0 m0_k
private noncomputable def m1 : MM := ⟨[155], l1, 249, [⟨155, 0, [.v (.c (.ptr 12 0)), .v (.c (i 0))], .tup [.agg [i 0, i 0, i 0], .c (.bool true)]⟩,
⟨155, 1, [.v (.c (.ptr 12 0)), .v (.c (i 1))], .tup [.agg [i 0, i 0, i 1], .c (.bool true)]⟩,
⟨155, 2, [.v (.c (.ptr 12 0)), .v (.c (i 2))], .tup [.agg [i 0, i 0, i 2], .c (.bool true)]⟩,
⟨155, 3, [.v (.c (.ptr 12 0)), .v (.c (i 3))], .tup [.agg [i 0, i 0, i 3], .c (.bool true)]⟩,
⟨155, 4, [.v (.c (.ptr 12 0)), .v (.c (i 4))], .tup [.agg [i 1, i 0, i 0], .c (.bool true)]⟩,
⟨155, 5, [.v (.c (.ptr 12 0)), .v (.c (i 5))], .tup [.agg [i 1, i 0, i 1], .c (.bool true)]⟩,
⟨155, 6, [.v (.c (.ptr 12 0)), .v (.c (i 6))], .tup [.agg [i 2, i 0, i 0], .c (.bool true)]⟩,
⟨155, 7, [.v (.c (.ptr 12 0)), .v (.c (i 7))], .tup [.agg [i 2, i 0, i 1], .c (.bool true)]⟩,
⟨155, 8, [.v (.c (.ptr 12 0)), .v (.c (i 8))], .tup [.agg [i 3, i 0, i 0], .c (.bool true)]⟩,
⟨155, 9, [.v (.c (.ptr 12 0)), .v (.c (i 9))], .tup [.agg [i 3, i 0, i 1], .c (.bool true)]⟩,
⟨155, 10, [.v (.c (.ptr 12 0)), .v (.c (i 10))], .tup [.agg [i 4, i 0, i 0], .c (.bool true)]⟩,
⟨155, 11, [.v (.c (.ptr 12 0)), .v (.c (i 11))], .tup [.agg [i 4, i 0, i 1], .c (.bool true)]⟩,
⟨155, 12, [.v (.c (.ptr 12 0)), .v (.c (i 12))], .tup [.agg [i 5, i 0, i 0], .c (.bool true)]⟩,
⟨155, 13, [.v (.c (.ptr 12 0)), .v (.c (i 13))], .tup [.agg [i 5, i 0, i 1], .c (.bool true)]⟩,
⟨155, 14, [.v (.c (.ptr 12 0)), .v (.c (i 14))], .tup [.agg [i 6, i 0, i 0], .c (.bool true)]⟩,
⟨155, 15, [.v (.c (.ptr 12 0)), .v (.c (i 15))], .tup [.agg [i 6, i 0, i 1], .c (.bool true)]⟩,
⟨155, 16, [.v (.c (.ptr 12 0)), .v (.c (i 16))], .tup [.agg [i 7, i 0, i 0], .c (.bool true)]⟩,
⟨155, 17, [.v (.c (.ptr 12 0)), .v (.c (i 17))], .tup [.agg [i 7, i 0, i 1], .c (.bool true)]⟩]⟩
private theorem m1_k : h1.tbl m1 = true := by kernel_rfl
private noncomputable def h2 : HK := h1.memo m1 m1_k
private noncomputable def s1 : RE := ⟨76, [.v (.c (.ptr 12 0))], 114, .v (.c (.ptr 114 0)), l2, 350⟩
private theorem s1_k : h2.srp l0 s1 = true := by kernel_rfl
private noncomputable def h3 : HK := h2.srep _ s1 s1_k
private noncomputable def s2 : RE := ⟨49, [.v (.c (.ptr 12 0)), .v (.c (.snil))], 114, .v (.c (.ptr 410 0)), l3, 6035⟩
private theorem s2_k : h3.rep l0 s2 = true := by kernel_rfl
private noncomputable def h4 : HK := h3.repl _ s2 s2_k
private noncomputable def s3 : RE := ⟨151, [.v (.c (.ptr 12 0)), .v (.c (.ptr 410 0)), .v (.c (i 2))], 6255, .v (.c (.snil)), [], 6432⟩
private theorem s3_k : h4.srp l4 s3 = true := by kernel_rfl
private noncomputable def h5 : HK := h4.srep _ s3 s3_k
private noncomputable def s4 : RE := ⟨151, [.v (.c (.ptr 12 0)), .v (.c (.ptr 410 0)), .v (.c (i 4))], 6448, .v (.c (.snil)), [], 6616⟩
private theorem s4_k : h5.srp l4 s4 = true := by kernel_rfl
private noncomputable def h6 : HK := h5.srep _ s4 s4_k
private noncomputable def s5 : RE := ⟨151, [.v (.c (.ptr 12 0)), .v (.c (.ptr 410 0)), .v (.c (i 6))], 6632, .v (.c (.snil)), [], 6791⟩
private theorem s5_k : h6.srp l4 s5 = true := by kernel_rfl
private noncomputable def h7 : HK := h6.srep _ s5 s5_k
private noncomputable def s6 : RE := ⟨151, [.v (.c (.ptr 12 0)), .v (.c (.ptr 410 0)), .v (.c (i 8))], 6807, .v (.c (.snil)), [], 6957⟩
private theorem s6_k : h7.srp l4 s6 = true := by kernel_rfl
private noncomputable def h8 : HK := h7.srep _ s6 s6_k
private noncomputable def s7 : RE := ⟨151, [.v (.c (.ptr 12 0)), .v (.c (.ptr 410 0)), .v (.c (i 10))], 6973, .v (.c (.snil)), [], 7114⟩
private theorem s7_k : h8.srp l4 s7 = true := by kernel_rfl
private noncomputable def h9 : HK := h8.srep _ s7 s7_k
private noncomputable def s8 : RE := ⟨151, [.v (.c (.ptr 12 0)), .v (.c (.ptr 410 0)), .v (.c (i 12))], 7130, .v (.c (.snil)), [], 7262⟩
private theorem s8_k : h9.srp l4 s8 = true := by kernel_rfl
private noncomputable def h10 : HK := h9.srep _ s8 s8_k
private noncomputable def s9 : RE := ⟨151, [.v (.c (.ptr 12 0)), .v (.c (.ptr 410 0)), .v (.c (i 14))], 7278, .v (.c (.snil)), [], 7401⟩
private theorem s9_k : h10.srp l4 s9 = true := by kernel_rfl
private noncomputable def h11 : HK := h10.srep _ s9 s9_k
private noncomputable def s10 : RE := ⟨85, [.v (.c (.ptr 12 0)), .v (.c (.ptr 410 0)), .v (.c (i 0))], 7443, .v (.c (o 7824 0 3)), [(7824, ⟨[i 1, i 0, i 1, i 1, i 1, i 2, i 0, i 0], 114, 2, none⟩)], 7840⟩
private theorem s10_k : h11.srp l4 s10 = true := by kernel_rfl
private noncomputable def h12 : HK := h11.srep _ s10 s10_k
private noncomputable def s11 : RE := ⟨86, [.v (.c (.ptr 12 0)), .v (.c (.ptr 410 0)), .v (.c (i 0))], 7842, .v (.c (o 7947 0 3)), [(7947, ⟨[i 1, i 0, i 1, i 1, i 1, i 2], 114, 2, none⟩)], 8034⟩
private theorem s11_k : h12.srp l4 s11 = true := by kernel_rfl
private noncomputable def h13 : HK := h12.srep _ s11 s11_k
private noncomputable def s12 : RE := ⟨85, [.v (.c (.ptr 12 0)), .v (.c (.ptr 410 0)), .v (.c (i 1))], 8036, .v (.c (o 8370 0 1)), [(8370, ⟨[i 1, i 0], 114, 2, none⟩)], 8371⟩
private theorem s12_k : h13.srp l4 s12 = true := by kernel_rfl
private noncomputable def h14 : HK := h13.srep _ s12 s12_k
private noncomputable def s13 : RE := ⟨86, [.v (.c (.ptr 12 0)), .v (.c (.ptr 410 0)), .v (.c (i 1))], 8373, .v (.c (.snil)), [], 8535⟩
private theorem s13_k : h14.srp l4 s13 = true := by kernel_rfl
private noncomputable def h15 : HK := h14.srep _ s13 s13_k
private noncomputable def s14 : RE := ⟨85, [.v (.c (.ptr 12 0)), .v (.c (.ptr 410 0)), .v (.c (i 2))], 8537, .v (.c (o 8853 0 1)), [(8853, ⟨[i 1, i 0], 114, 2, none⟩)], 8854⟩
private theorem s14_k : h15.srp l4 s14 = true := by kernel_rfl
private noncomputable def h16 : HK := h15.srep _ s14 s14_k
private noncomputable def s15 : RE := ⟨86, [.v (.c (.ptr 12 0)), .v (.c (.ptr 410 0)), .v (.c (i 2))], 8856, .v (.c (.snil)), [], 9009⟩
private theorem s15_k : h16.srp l4 s15 = true := by kernel_rfl
private noncomputable def h17 : HK := h16.srep _ s15 s15_k
private noncomputable def s16 : RE := ⟨85, [.v (.c (.ptr 12 0)), .v (.c (.ptr 410 0)), .v (.c (i 3))], 9011, .v (.c (o 9309 0 1)), [(9309, ⟨[i 1, i 0], 114, 2, none⟩)], 9310⟩
private theorem s16_k : h17.srp l4 s16 = true := by kernel_rfl
private noncomputable def h18 : HK := h17.srep _ s16 s16_k
private noncomputable def s17 : RE := ⟨86, [.v (.c (.ptr 12 0)), .v (.c (.ptr 410 0)), .v (.c (i 3))], 9312, .v (.c (.snil)), [], 9456⟩
private theorem s17_k : h18.srp l4 s17 = true := by kernel_rfl
private noncomputable def h19 : HK := h18.srep _ s17 s17_k
private noncomputable def s18 : RE := ⟨85, [.v (.c (.ptr 12 0)), .v (.c (.ptr 410 0)), .v (.c (i 4))], 9458, .v (.c (o 9738 0 1)), [(9738, ⟨[i 1, i 0], 114, 2, none⟩)], 9739⟩
private theorem s18_k : h19.srp l4 s18 = true := by kernel_rfl
private noncomputable def h20 : HK := h19.srep _ s18 s18_k
private noncomputable def s19 : RE := ⟨86, [.v (.c (.ptr 12 0)), .v (.c (.ptr 410 0)), .v (.c (i 4))], 9741, .v (.c (.snil)), [], 9876⟩
private theorem s19_k : h20.srp l4 s19 = true := by kernel_rfl
private noncomputable def h21 : HK := h20.srep _ s19 s19_k
private noncomputable def s20 : RE := ⟨85, [.v (.c (.ptr 12 0)), .v (.c (.ptr 410 0)), .v (.c (i 5))], 9878, .v (.c (o 10140 0 1)), [(10140, ⟨[i 1, i 0], 114, 2, none⟩)], 10141⟩
private theorem s20_k : h21.srp l4 s20 = true := by kernel_rfl
private noncomputable def h22 : HK := h21.srep _ s20 s20_k
private noncomputable def s21 : RE := ⟨86, [.v (.c (.ptr 12 0)), .v (.c (.ptr 410 0)), .v (.c (i 5))], 10143, .v (.c (.snil)), [], 10269⟩
private theorem s21_k : h22.srp l4 s21 = true := by kernel_rfl
private noncomputable def h23 : HK := h22.srep _ s21 s21_k
private noncomputable def s22 : RE := ⟨85, [.v (.c (.ptr 12 0)), .v (.c (.ptr 410 0)), .v (.c (i 6))], 10271, .v (.c (o 10515 0 1)), [(10515, ⟨[i 1, i 0], 114, 2, none⟩)], 10516⟩
private theorem s22_k : h23.srp l4 s22 = true := by kernel_rfl
private noncomputable def h24 : HK := h23.srep _ s22 s22_k
private noncomputable def s23 : RE := ⟨86, [.v (.c (.ptr 12 0)), .v (.c (.ptr 410 0)), .v (.c (i 6))], 10518, .v (.c (.snil)), [], 10635⟩
private theorem s23_k : h24.srp l4 s23 = true := by kernel_rfl
private noncomputable def h25 : HK := h24.srep _ s23 s23_k
private noncomputable def s24 : RE := ⟨85, [.v (.c (.ptr 12 0)), .v (.c (.ptr 410 0)), .v (.c (i 7))], 10637, .v (.c (o 10863 0 1)), [(10863, ⟨[i 1, i 0], 114, 2, none⟩)], 10864⟩
private theorem s24_k : h25.srp l4 s24 = true := by kernel_rfl
private noncomputable def h26 : HK := h25.srep _ s24 s24_k
private noncomputable def s25 : RE := ⟨86, [.v (.c (.ptr 12 0)), .v (.c (.ptr 410 0)), .v (.c (i 7))], 10866, .v (.c (.snil)), [], 10974⟩
private theorem s25_k : h26.srp l4 s25 = true := by kernel_rfl
private noncomputable def h27 : HK := h26.srep _ s25 s25_k
private noncomputable def s26 : RE := ⟨50, [.v (.c (.ptr 12 0)), .v (.c (.ptr 410 0))], 6035, .v (.c (.ptr 7441 0)), l5, 11796⟩
private theorem s26_k : h27.rep l4 s26 = true := by kernel_rfl
private noncomputable def h28 : HK := h27.repl _ s26 s26_k
theorem TopNilParam_6_f_run : isBool true (runW h28.K 12 [mi 8 6, ab false] s0) = true := by kernel_rfl
theorem TopNilParam_6_f_law {args : Array Value} (ha : VAs (fun _ => none) [mi 8 6, ab false] args.toList) (w : World) (hT : Tab w) :
    Calls Tryz.prog 12 args w fun e w' => Below w.heap.size w w' ∧ e = .returned (.bool true) := h28.law TopNilParam_6_f_run ha w hT
end Go.Proofs.YteajpblmbmncdaaGreatDoor
