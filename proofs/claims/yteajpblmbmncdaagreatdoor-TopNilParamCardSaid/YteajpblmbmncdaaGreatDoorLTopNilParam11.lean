/- Tables of calls, and a run that uses them. -/
import Derived.Test.YteajpblmbmncdaaGreatDoorLn
namespace Go.Proofs.YteajpblmbmncdaaGreatDoor
open Go Go.RowKit Ev
set_option maxRecDepth 100000
set_option linter.unusedVariables false
private noncomputable abbrev i (n : Nat) : CV := .int .i64 (.ofNat n)
private noncomputable abbrev o (b a n : Nat) : CV := .slice b a n (.opn 0)
private noncomputable abbrev f (b a n : Nat) : CV := .slice b a n (.fix n)
private noncomputable abbrev e (k t : Nat) : Nat × BK := (k, ⟨[.snil], t, 0, none⟩)
private noncomputable abbrev l0 : Bls := [(1, ⟨[i 0, i 0, i 0, i 0, i 1, i 0], 69, 0, none⟩),
(2, ⟨[f 1 0 3], 47, 0, none⟩),
(4, ⟨[i 1, i 0], 69, 0, none⟩),
(5, ⟨[i 0, i 0], 69, 0, none⟩),
(7, ⟨[i 1, i 0], 69, 0, none⟩),
(9, ⟨[.snil, i 0, i 0, f 4 0 1, i 0, i 0, f 5 0 1, i 0, i 0, f 7 0 1, i 1, i 0], 72, 0, none⟩),
(10, ⟨[i 0], 3, 0, none⟩),
(11, ⟨[f 10 0 1], 74, 0, none⟩),
(12, ⟨[f 2 0 1, f 9 0 4, f 11 0 1, .snil, o 98 0 7, i 0], 57, 0, none⟩),
(20, ⟨[i 0, i 0, i 1, i 0], 69, 2, none⟩),
(21, ⟨[o 30 0 3, i 3, i 0, i 0, i 0], 46, 0, none⟩),
(27, ⟨[i 1], 3, 0, none⟩),
(30, ⟨[i 1, i 0, i 0, i 0, i 1, .snil, i 5, i 1, i 0, i 0, i 0, .snil, i 12, i 0, i 0, i 0, i 1, f 27 0 1], 29, 6, none⟩),
(35, ⟨[i 1, i 0, i 0, i 0], 69, 2, none⟩),
(36, ⟨[o 42 0 1, i 3, i 1, i 0, i 0], 46, 0, none⟩),
(39, ⟨[i 0], 3, 0, none⟩),
(42, ⟨[i 12, i 1, i 0, i 0, i 2, f 39 0 1], 29, 6, none⟩),
(47, ⟨[i 1, i 0, i 0, i 0], 69, 2, none⟩),
(48, ⟨[o 54 0 1, i 3, i 1, i 0, i 0], 46, 0, none⟩),
(51, ⟨[i 0], 3, 0, none⟩),
(54, ⟨[i 12, i 1, i 0, i 0, i 3, f 51 0 1], 29, 6, none⟩),
(59, ⟨[i 1, i 0, i 0, i 0], 69, 2, none⟩),
(60, ⟨[o 66 0 1, i 3, i 1, i 0, i 0], 46, 0, none⟩),
(63, ⟨[i 0], 3, 0, none⟩),
(66, ⟨[i 12, i 1, i 0, i 0, i 4, f 63 0 1], 29, 6, none⟩),
(71, ⟨[i 1, i 0, i 0, i 0], 69, 2, none⟩),
(72, ⟨[o 78 0 1, i 3, i 1, i 0, i 0], 46, 0, none⟩),
(75, ⟨[i 0], 3, 0, none⟩),
(78, ⟨[i 12, i 1, i 0, i 0, i 5, f 75 0 1], 29, 6, none⟩),
(83, ⟨[i 1, i 0, i 0, i 0], 69, 2, none⟩),
(84, ⟨[o 90 0 1, i 3, i 1, i 0, i 0], 46, 0, none⟩),
(87, ⟨[i 0], 3, 0, none⟩),
(90, ⟨[i 12, i 1, i 0, i 0, i 6, f 87 0 1], 29, 6, none⟩),
(95, ⟨[i 1, i 0, i 0, i 0], 69, 2, none⟩),
(96, ⟨[o 101 0 1, i 3, i 1, i 0, i 0], 46, 0, none⟩),
(98, ⟨[i 0, o 20 0 2, f 21 0 1, i 1, o 35 0 2, f 36 0 1, i 1, o 47 0 2, f 48 0 1, i 1, o 59 0 2, f 60 0 1, i 1, o 71 0 2, f 72 0 1, i 1, o 83 0 2, f 84 0 1, i 1, o 95 0 2, f 96 0 1], 50, 3, none⟩),
(101, ⟨[i 7, i 1, i 0, i 0, i 0, .snil], 29, 6, none⟩)]
private noncomputable abbrev l1 : Bls := [(12, ⟨[f 2 0 1, f 9 0 4, f 11 0 1, .snil, o 98 0 7, i 0], 57, 0, none⟩),
(21, ⟨[o 30 0 3, i 3, i 0, i 0, i 0], 46, 0, none⟩),
(36, ⟨[o 42 0 1, i 3, i 1, i 0, i 0], 46, 0, none⟩),
(48, ⟨[o 54 0 1, i 3, i 1, i 0, i 0], 46, 0, none⟩),
(60, ⟨[o 66 0 1, i 3, i 1, i 0, i 0], 46, 0, none⟩),
(72, ⟨[o 78 0 1, i 3, i 1, i 0, i 0], 46, 0, none⟩),
(84, ⟨[o 90 0 1, i 3, i 1, i 0, i 0], 46, 0, none⟩),
(96, ⟨[o 101 0 1, i 3, i 1, i 0, i 0], 46, 0, none⟩),
(98, ⟨[i 0, o 20 0 2, f 21 0 1, i 1, o 35 0 2, f 36 0 1, i 1, o 47 0 2, f 48 0 1, i 1, o 59 0 2, f 60 0 1, i 1, o 71 0 2, f 72 0 1, i 1, o 83 0 2, f 84 0 1, i 1, o 95 0 2, f 96 0 1], 50, 3, none⟩)]
private noncomputable abbrev l2 : Bls := [(102, ⟨[o 182 0 7, o 186 0 7, o 241 0 1, o 230 0 1, o 232 0 1, i 24], 230, 0, none⟩),
(108, ⟨[i 0, i 1], 3, 1, none⟩),
(120, ⟨[i 3, i 4], 3, 1, none⟩),
(132, ⟨[i 6, i 7], 3, 1, none⟩),
(144, ⟨[i 9, i 10], 3, 1, none⟩),
(156, ⟨[i 12, i 13], 3, 1, none⟩),
(168, ⟨[i 15, i 16], 3, 1, none⟩),
(180, ⟨[i 18, i 19], 3, 1, none⟩),
(182, ⟨[o 108 0 2, o 120 0 2, o 132 0 2, o 144 0 2, o 156 0 2, o 168 0 2, o 180 0 2], 27, 1, none⟩),
(186, ⟨[i 2, i 5, i 8, i 11, i 14, i 17, i 20], 3, 1, none⟩),
(230, ⟨[i 1], 3, 1, none⟩),
(232, ⟨[i 0], 3, 1, none⟩),
(239, ⟨[i 21, i 22, i 23], 3, 1, none⟩),
(241, ⟨[o 239 0 3], 27, 1, none⟩)]
private noncomputable abbrev l3 : Bls := [(102, ⟨[o 182 0 7, o 186 0 7, o 241 0 1, o 230 0 1, o 232 0 1, i 24], 230, 0, none⟩),
(108, ⟨[i 0, i 1], 3, 1, none⟩),
(120, ⟨[i 3, i 4], 3, 1, none⟩),
(132, ⟨[i 6, i 7], 3, 1, none⟩),
(144, ⟨[i 9, i 10], 3, 1, none⟩),
(156, ⟨[i 12, i 13], 3, 1, none⟩),
(168, ⟨[i 15, i 16], 3, 1, none⟩),
(180, ⟨[i 18, i 19], 3, 1, none⟩),
(182, ⟨[o 108 0 2, o 120 0 2, o 132 0 2, o 144 0 2, o 156 0 2, o 168 0 2, o 180 0 2], 27, 1, none⟩),
(186, ⟨[i 2, i 5, i 8, i 11, i 14, i 17, i 20], 3, 1, none⟩),
(230, ⟨[i 1], 3, 1, none⟩),
(232, ⟨[i 0], 3, 1, none⟩),
(239, ⟨[i 21, i 22, i 23], 3, 1, none⟩),
(241, ⟨[o 239 0 3], 27, 1, none⟩),
(312, ⟨[o 360 0 24], 233, 0, none⟩),
(360, ⟨[i 0, i 1, i 2, i 3, i 4, i 5, i 6, i 7, i 8, i 9, i 10, i 11, i 12, i 13, i 14, i 15, i 16, i 17, i 18, i 19, i 20, i 21, i 22, i 23], 3, 1, none⟩),
(361, ⟨[.snil, .snil, .snil, .snil, .snil, .snil, .snil, .snil, .snil, .snil, .snil, .snil, .snil, .snil, .snil, .snil, .snil, .snil, .snil, .snil, .snil, .snil, .snil, .snil], 238, 0, none⟩),
(362, ⟨[o 584 0 1], 139, 0, none⟩),
(363, ⟨[], 0, 0, some (.map [(0, .agg [i 2, i 1], .c (.bool true)), (1, .agg [i 4, i 2], .c (.bool true)), (2, .agg [i 6, i 3], .c (.bool true)), (3, .agg [i 8, i 4], .c (.bool true)), (4, .agg [i 10, i 5], .c (.bool true)), (5, .agg [i 12, i 6], .c (.bool true))] 6)⟩),
(364, ⟨[], 0, 0, some (.map [] 7)⟩),
(365, ⟨[.snil, o 3783 0 0, .map 364, i 7], 237, 0, none⟩),
(366, ⟨[.ptr 12 0, .ptr 102 0, .ptr 312 0, o 576 0 24, o 579 0 24, o 582 0 24, f 361 0 24, .ptr 362 0, .map 363, .ptr 365 0], 145, 0, none⟩),
e 367 139,
e 370 139,
e 373 139,
(376, ⟨[o 888 0 1], 139, 0, none⟩),
(382, ⟨[o 894 0 1], 139, 0, none⟩),
e 385 139,
e 388 139,
e 391 139,
(394, ⟨[o 896 0 1], 139, 0, none⟩),
(400, ⟨[o 1451 0 1], 139, 0, none⟩),
e 403 139,
e 406 139,
e 409 139,
e 412 139,
e 415 139,
e 418 139,
(421, ⟨[o 1453 0 1], 139, 0, none⟩),
(427, ⟨[o 2018 0 1], 139, 0, none⟩),
e 430 139,
e 433 139,
e 436 139,
e 439 139,
e 442 139,
e 445 139,
(448, ⟨[o 2020 0 1], 139, 0, none⟩),
(454, ⟨[o 2595 0 1], 139, 0, none⟩),
e 457 139,
e 460 139,
e 463 139,
e 466 139,
e 469 139,
e 472 139,
(475, ⟨[o 2597 0 1], 139, 0, none⟩),
(481, ⟨[o 3182 0 1], 139, 0, none⟩),
e 484 139,
e 487 139,
e 490 139,
e 493 139,
e 496 139,
e 499 139,
(502, ⟨[o 3184 0 1], 139, 0, none⟩),
(508, ⟨[o 3779 0 1], 139, 0, none⟩),
e 511 139,
e 514 139,
e 517 139,
e 520 139,
e 523 139,
e 526 139,
(529, ⟨[o 3781 0 1], 139, 0, none⟩),
e 535 139,
e 538 139,
e 541 139,
e 544 139,
e 547 139,
e 550 139,
e 553 139,
e 556 139,
e 559 139,
e 562 139,
e 565 139,
e 568 139,
e 571 139,
e 574 139,
(576, ⟨[.ptr 367 0, .ptr 376 0, .ptr 385 0, .ptr 394 0, .ptr 403 0, .ptr 412 0, .ptr 421 0, .ptr 430 0, .ptr 439 0, .ptr 448 0, .ptr 457 0, .ptr 466 0, .ptr 475 0, .ptr 484 0, .ptr 493 0, .ptr 502 0, .ptr 511 0, .ptr 520 0, .ptr 529 0, .ptr 538 0, .ptr 547 0, .ptr 556 0, .ptr 565 0, .ptr 574 0], 136, 1, none⟩),
e 577 139,
(579, ⟨[.ptr 370 0, .ptr 4735 0, .ptr 388 0, .ptr 4743 0, .ptr 406 0, .ptr 415 0, .ptr 4751 0, .ptr 433 0, .ptr 442 0, .ptr 4759 0, .ptr 460 0, .ptr 469 0, .ptr 4767 0, .ptr 487 0, .ptr 496 0, .ptr 4775 0, .ptr 514 0, .ptr 523 0, .ptr 4783 0, .ptr 541 0, .ptr 550 0, .ptr 559 0, .ptr 568 0, .ptr 577 0], 136, 1, none⟩),
e 580 139,
(582, ⟨[.ptr 373 0, .ptr 382 0, .ptr 391 0, .ptr 400 0, .ptr 409 0, .ptr 418 0, .ptr 427 0, .ptr 436 0, .ptr 445 0, .ptr 454 0, .ptr 463 0, .ptr 472 0, .ptr 481 0, .ptr 490 0, .ptr 499 0, .ptr 508 0, .ptr 517 0, .ptr 526 0, .ptr 535 0, .ptr 544 0, .ptr 553 0, .ptr 562 0, .ptr 571 0, .ptr 580 0], 136, 1, none⟩),
(584, ⟨[.int .u64 (.ofNat 127)], 224, 1, none⟩),
(888, ⟨[.int .u64 (.ofNat 1)], 224, 1, none⟩),
(894, ⟨[.int .u64 (.ofNat 8)], 224, 1, none⟩),
(896, ⟨[.int .u64 (.ofNat 1)], 224, 1, none⟩),
(1451, ⟨[.int .u64 (.ofNat 64)], 224, 1, none⟩),
(1453, ⟨[.int .u64 (.ofNat 1)], 224, 1, none⟩),
(2018, ⟨[.int .u64 (.ofNat 512)], 224, 1, none⟩),
(2020, ⟨[.int .u64 (.ofNat 1)], 224, 1, none⟩),
(2595, ⟨[.int .u64 (.ofNat 4096)], 224, 1, none⟩),
(2597, ⟨[.int .u64 (.ofNat 1)], 224, 1, none⟩),
(3182, ⟨[.int .u64 (.ofNat 32768)], 224, 1, none⟩),
(3184, ⟨[.int .u64 (.ofNat 1)], 224, 1, none⟩),
(3779, ⟨[.int .u64 (.ofNat 262144)], 224, 1, none⟩),
(3781, ⟨[.int .u64 (.ofNat 1)], 224, 1, none⟩),
(3783, ⟨[i 0, i 0, i 0, i 0, i 0, i 0, i 0], 3, 1, none⟩),
(4734, ⟨[.int .u64 (.ofNat 1)], 224, 1, none⟩),
(4735, ⟨[o 4734 0 1], 139, 0, none⟩),
(4742, ⟨[.int .u64 (.ofNat 1)], 224, 1, none⟩),
(4743, ⟨[o 4742 0 1], 139, 0, none⟩),
(4750, ⟨[.int .u64 (.ofNat 1)], 224, 1, none⟩),
(4751, ⟨[o 4750 0 1], 139, 0, none⟩),
(4758, ⟨[.int .u64 (.ofNat 1)], 224, 1, none⟩),
(4759, ⟨[o 4758 0 1], 139, 0, none⟩),
(4766, ⟨[.int .u64 (.ofNat 1)], 224, 1, none⟩),
(4767, ⟨[o 4766 0 1], 139, 0, none⟩),
(4774, ⟨[.int .u64 (.ofNat 1)], 224, 1, none⟩),
(4775, ⟨[o 4774 0 1], 139, 0, none⟩),
(4782, ⟨[.int .u64 (.ofNat 1)], 224, 1, none⟩),
(4783, ⟨[o 4782 0 1], 139, 0, none⟩)]
private noncomputable abbrev l4 : Bls := [(1, ⟨[i 0, i 0, i 0, i 0, i 1, i 0], 69, 0, none⟩),
(2, ⟨[f 1 0 3], 47, 0, none⟩),
(4, ⟨[i 1, i 0], 69, 0, none⟩),
(5, ⟨[i 0, i 0], 69, 0, none⟩),
(7, ⟨[i 1, i 0], 69, 0, none⟩),
(9, ⟨[.snil, i 0, i 0, f 4 0 1, i 0, i 0, f 5 0 1, i 0, i 0, f 7 0 1, i 1, i 0], 72, 0, none⟩),
(10, ⟨[i 0], 3, 0, none⟩),
(11, ⟨[f 10 0 1], 74, 0, none⟩),
(12, ⟨[f 2 0 1, f 9 0 4, f 11 0 1, .snil, o 98 0 7, i 0], 57, 0, none⟩),
(20, ⟨[i 0, i 0, i 1, i 0], 69, 2, none⟩),
(21, ⟨[o 30 0 3, i 3, i 0, i 0, i 0], 46, 0, none⟩),
(27, ⟨[i 1], 3, 0, none⟩),
(30, ⟨[i 1, i 0, i 0, i 0, i 1, .snil, i 5, i 1, i 0, i 0, i 0, .snil, i 12, i 0, i 0, i 0, i 1, f 27 0 1], 29, 6, none⟩),
(35, ⟨[i 1, i 0, i 0, i 0], 69, 2, none⟩),
(36, ⟨[o 42 0 1, i 3, i 1, i 0, i 0], 46, 0, none⟩),
(39, ⟨[i 0], 3, 0, none⟩),
(42, ⟨[i 12, i 1, i 0, i 0, i 2, f 39 0 1], 29, 6, none⟩),
(47, ⟨[i 1, i 0, i 0, i 0], 69, 2, none⟩),
(48, ⟨[o 54 0 1, i 3, i 1, i 0, i 0], 46, 0, none⟩),
(51, ⟨[i 0], 3, 0, none⟩),
(54, ⟨[i 12, i 1, i 0, i 0, i 3, f 51 0 1], 29, 6, none⟩),
(59, ⟨[i 1, i 0, i 0, i 0], 69, 2, none⟩),
(60, ⟨[o 66 0 1, i 3, i 1, i 0, i 0], 46, 0, none⟩),
(63, ⟨[i 0], 3, 0, none⟩),
(66, ⟨[i 12, i 1, i 0, i 0, i 4, f 63 0 1], 29, 6, none⟩),
(71, ⟨[i 1, i 0, i 0, i 0], 69, 2, none⟩),
(72, ⟨[o 78 0 1, i 3, i 1, i 0, i 0], 46, 0, none⟩),
(75, ⟨[i 0], 3, 0, none⟩),
(78, ⟨[i 12, i 1, i 0, i 0, i 5, f 75 0 1], 29, 6, none⟩),
(83, ⟨[i 1, i 0, i 0, i 0], 69, 2, none⟩),
(84, ⟨[o 90 0 1, i 3, i 1, i 0, i 0], 46, 0, none⟩),
(87, ⟨[i 0], 3, 0, none⟩),
(90, ⟨[i 12, i 1, i 0, i 0, i 6, f 87 0 1], 29, 6, none⟩),
(95, ⟨[i 1, i 0, i 0, i 0], 69, 2, none⟩),
(96, ⟨[o 101 0 1, i 3, i 1, i 0, i 0], 46, 0, none⟩),
(98, ⟨[i 0, o 20 0 2, f 21 0 1, i 1, o 35 0 2, f 36 0 1, i 1, o 47 0 2, f 48 0 1, i 1, o 59 0 2, f 60 0 1, i 1, o 71 0 2, f 72 0 1, i 1, o 83 0 2, f 84 0 1, i 1, o 95 0 2, f 96 0 1], 50, 3, none⟩),
(101, ⟨[i 7, i 1, i 0, i 0, i 0, .snil], 29, 6, none⟩),
(102, ⟨[o 182 0 7, o 186 0 7, o 241 0 1, o 230 0 1, o 232 0 1, i 24], 230, 0, none⟩),
(108, ⟨[i 0, i 1], 3, 1, none⟩),
(120, ⟨[i 3, i 4], 3, 1, none⟩),
(132, ⟨[i 6, i 7], 3, 1, none⟩),
(144, ⟨[i 9, i 10], 3, 1, none⟩),
(156, ⟨[i 12, i 13], 3, 1, none⟩),
(168, ⟨[i 15, i 16], 3, 1, none⟩),
(180, ⟨[i 18, i 19], 3, 1, none⟩),
(182, ⟨[o 108 0 2, o 120 0 2, o 132 0 2, o 144 0 2, o 156 0 2, o 168 0 2, o 180 0 2], 27, 1, none⟩),
(186, ⟨[i 2, i 5, i 8, i 11, i 14, i 17, i 20], 3, 1, none⟩),
(230, ⟨[i 1], 3, 1, none⟩),
(232, ⟨[i 0], 3, 1, none⟩),
(239, ⟨[i 21, i 22, i 23], 3, 1, none⟩),
(241, ⟨[o 239 0 3], 27, 1, none⟩),
(312, ⟨[o 360 0 24], 233, 0, none⟩),
(360, ⟨[i 0, i 1, i 2, i 3, i 4, i 5, i 6, i 7, i 8, i 9, i 10, i 11, i 12, i 13, i 14, i 15, i 16, i 17, i 18, i 19, i 20, i 21, i 22, i 23], 3, 1, none⟩),
(361, ⟨[.snil, .snil, .snil, .snil, .snil, .snil, .snil, .snil, .snil, .snil, .snil, .snil, .snil, .snil, .snil, .snil, .snil, .snil, .snil, .snil, .snil, .snil, .snil, .snil], 238, 0, none⟩),
(362, ⟨[o 584 0 1], 139, 0, none⟩),
(363, ⟨[], 0, 0, some (.map [(0, .agg [i 2, i 1], .c (.bool true)), (1, .agg [i 4, i 2], .c (.bool true)), (2, .agg [i 6, i 3], .c (.bool true)), (3, .agg [i 8, i 4], .c (.bool true)), (4, .agg [i 10, i 5], .c (.bool true)), (5, .agg [i 12, i 6], .c (.bool true))] 6)⟩),
(364, ⟨[], 0, 0, some (.map [] 7)⟩),
(365, ⟨[.snil, o 3783 0 0, .map 364, i 7], 237, 0, none⟩),
(366, ⟨[.ptr 12 0, .ptr 102 0, .ptr 312 0, o 576 0 24, o 579 0 24, o 582 0 24, f 361 0 24, .ptr 362 0, .map 363, .ptr 365 0], 145, 0, none⟩),
e 367 139,
e 370 139,
e 373 139,
(376, ⟨[o 888 0 1], 139, 0, none⟩),
(382, ⟨[o 894 0 1], 139, 0, none⟩),
e 385 139,
e 388 139,
e 391 139,
(394, ⟨[o 896 0 1], 139, 0, none⟩),
(400, ⟨[o 1451 0 1], 139, 0, none⟩),
e 403 139,
e 406 139,
e 409 139,
e 412 139,
e 415 139,
e 418 139,
(421, ⟨[o 1453 0 1], 139, 0, none⟩),
(427, ⟨[o 2018 0 1], 139, 0, none⟩),
e 430 139,
e 433 139,
e 436 139,
e 439 139,
e 442 139,
e 445 139,
(448, ⟨[o 2020 0 1], 139, 0, none⟩),
(454, ⟨[o 2595 0 1], 139, 0, none⟩),
e 457 139,
e 460 139,
e 463 139,
e 466 139,
e 469 139,
e 472 139,
(475, ⟨[o 2597 0 1], 139, 0, none⟩),
(481, ⟨[o 3182 0 1], 139, 0, none⟩),
e 484 139,
e 487 139,
e 490 139,
e 493 139,
e 496 139,
e 499 139,
(502, ⟨[o 3184 0 1], 139, 0, none⟩),
(508, ⟨[o 3779 0 1], 139, 0, none⟩),
e 511 139,
e 514 139,
e 517 139,
e 520 139,
e 523 139,
e 526 139,
(529, ⟨[o 3781 0 1], 139, 0, none⟩),
e 535 139,
e 538 139,
e 541 139,
e 544 139,
e 547 139,
e 550 139,
e 553 139,
e 556 139,
e 559 139,
e 562 139,
e 565 139,
e 568 139,
e 571 139,
e 574 139,
(576, ⟨[.ptr 367 0, .ptr 376 0, .ptr 385 0, .ptr 394 0, .ptr 403 0, .ptr 412 0, .ptr 421 0, .ptr 430 0, .ptr 439 0, .ptr 448 0, .ptr 457 0, .ptr 466 0, .ptr 475 0, .ptr 484 0, .ptr 493 0, .ptr 502 0, .ptr 511 0, .ptr 520 0, .ptr 529 0, .ptr 538 0, .ptr 547 0, .ptr 556 0, .ptr 565 0, .ptr 574 0], 136, 1, none⟩),
e 577 139,
(579, ⟨[.ptr 370 0, .ptr 4735 0, .ptr 388 0, .ptr 4743 0, .ptr 406 0, .ptr 415 0, .ptr 4751 0, .ptr 433 0, .ptr 442 0, .ptr 4759 0, .ptr 460 0, .ptr 469 0, .ptr 4767 0, .ptr 487 0, .ptr 496 0, .ptr 4775 0, .ptr 514 0, .ptr 523 0, .ptr 4783 0, .ptr 541 0, .ptr 550 0, .ptr 559 0, .ptr 568 0, .ptr 577 0], 136, 1, none⟩),
e 580 139,
(582, ⟨[.ptr 373 0, .ptr 382 0, .ptr 391 0, .ptr 400 0, .ptr 409 0, .ptr 418 0, .ptr 427 0, .ptr 436 0, .ptr 445 0, .ptr 454 0, .ptr 463 0, .ptr 472 0, .ptr 481 0, .ptr 490 0, .ptr 499 0, .ptr 508 0, .ptr 517 0, .ptr 526 0, .ptr 535 0, .ptr 544 0, .ptr 553 0, .ptr 562 0, .ptr 571 0, .ptr 580 0], 136, 1, none⟩),
(584, ⟨[.int .u64 (.ofNat 127)], 224, 1, none⟩),
(888, ⟨[.int .u64 (.ofNat 1)], 224, 1, none⟩),
(894, ⟨[.int .u64 (.ofNat 8)], 224, 1, none⟩),
(896, ⟨[.int .u64 (.ofNat 1)], 224, 1, none⟩),
(1451, ⟨[.int .u64 (.ofNat 64)], 224, 1, none⟩),
(1453, ⟨[.int .u64 (.ofNat 1)], 224, 1, none⟩),
(2018, ⟨[.int .u64 (.ofNat 512)], 224, 1, none⟩),
(2020, ⟨[.int .u64 (.ofNat 1)], 224, 1, none⟩),
(2595, ⟨[.int .u64 (.ofNat 4096)], 224, 1, none⟩),
(2597, ⟨[.int .u64 (.ofNat 1)], 224, 1, none⟩),
(3182, ⟨[.int .u64 (.ofNat 32768)], 224, 1, none⟩),
(3184, ⟨[.int .u64 (.ofNat 1)], 224, 1, none⟩),
(3779, ⟨[.int .u64 (.ofNat 262144)], 224, 1, none⟩),
(3781, ⟨[.int .u64 (.ofNat 1)], 224, 1, none⟩),
(3783, ⟨[i 0, i 0, i 0, i 0, i 0, i 0, i 0], 3, 1, none⟩),
(4734, ⟨[.int .u64 (.ofNat 1)], 224, 1, none⟩),
(4735, ⟨[o 4734 0 1], 139, 0, none⟩),
(4742, ⟨[.int .u64 (.ofNat 1)], 224, 1, none⟩),
(4743, ⟨[o 4742 0 1], 139, 0, none⟩),
(4750, ⟨[.int .u64 (.ofNat 1)], 224, 1, none⟩),
(4751, ⟨[o 4750 0 1], 139, 0, none⟩),
(4758, ⟨[.int .u64 (.ofNat 1)], 224, 1, none⟩),
(4759, ⟨[o 4758 0 1], 139, 0, none⟩),
(4766, ⟨[.int .u64 (.ofNat 1)], 224, 1, none⟩),
(4767, ⟨[o 4766 0 1], 139, 0, none⟩),
(4774, ⟨[.int .u64 (.ofNat 1)], 224, 1, none⟩),
(4775, ⟨[o 4774 0 1], 139, 0, none⟩),
(4782, ⟨[.int .u64 (.ofNat 1)], 224, 1, none⟩),
(4783, ⟨[o 4782 0 1], 139, 0, none⟩)]
private noncomputable abbrev l5 : Bls := [(5910, ⟨[], 0, 0, some (.map [(0, .agg [i 4, i 0, i 0, i 1, i 0], .c (o 8770 0 1)), (1, .agg [i 4, i 0, i 0, i 1, i 1], .c (o 8785 0 1)), (2, .agg [i 4, i 0, i 0, i 1, i 2], .c (o 8800 0 1)), (3, .agg [i 1, i 1, i 0, i 0, i 0], .c (o 8835 0 1)), (4, .agg [i 5, i 1, i 0, i 0, i 0], .c (o 8840 0 1)), (5, .agg [i 3, i 1, i 0, i 1, i 0], .c (o 8897 0 2)), (6, .agg [i 1, i 2, i 0, i 0, i 0], .c (o 8880 0 1)), (7, .agg [i 3, i 1, i 0, i 1, i 1], .c (o 8914 0 1)), (8, .agg [i 3, i 1, i 0, i 1, i 2], .c (o 8931 0 1)), (9, .agg [i 2, i 1, i 0, i 0, i 0], .c (o 8959 0 1)), (10, .agg [i 5, i 2, i 0, i 0, i 0], .c (o 8964 0 1)), (11, .agg [i 4, i 1, i 0, i 1, i 0], .c (o 9017 0 2)), (12, .agg [i 1, i 4, i 0, i 0, i 0], .c (o 9002 0 1)), (13, .agg [i 2, i 2, i 0, i 0, i 0], .c (o 9045 0 1)), (14, .agg [i 5, i 3, i 0, i 0, i 0], .c (o 9050 0 1)), (15, .agg [i 4, i 2, i 0, i 1, i 0], .c (o 9103 0 2)), (16, .agg [i 1, i 6, i 0, i 0, i 0], .c (o 9088 0 1)), (17, .agg [i 2, i 3, i 0, i 0, i 0], .c (o 9131 0 1)), (18, .agg [i 5, i 4, i 0, i 0, i 0], .c (o 9136 0 1)), (19, .agg [i 4, i 3, i 0, i 1, i 0], .c (o 9189 0 2)), (20, .agg [i 1, i 8, i 0, i 0, i 0], .c (o 9174 0 1)), (21, .agg [i 2, i 4, i 0, i 0, i 0], .c (o 9217 0 1)), (22, .agg [i 5, i 5, i 0, i 0, i 0], .c (o 9222 0 1)), (23, .agg [i 4, i 4, i 0, i 1, i 0], .c (o 9275 0 2)), (24, .agg [i 1, i 10, i 0, i 0, i 0], .c (o 9260 0 1)), (25, .agg [i 2, i 5, i 0, i 0, i 0], .c (o 9303 0 1)), (26, .agg [i 5, i 6, i 0, i 0, i 0], .c (o 9308 0 1)), (27, .agg [i 4, i 5, i 0, i 1, i 0], .c (o 9361 0 2)), (28, .agg [i 1, i 12, i 0, i 0, i 0], .c (o 9346 0 1)), (29, .agg [i 4, i 6, i 0, i 1, i 0], .c (o 9429 0 2)), (30, .agg [i 1, i 14, i 0, i 0, i 0], .c (o 9414 0 1))] 31)⟩),
(5911, ⟨[.map 5910, .md 1 (.ofNat 0) true], 155, 0, none⟩),
(8770, ⟨[i 3, i 1, i 0, i 1, i 0], 116, 5, none⟩),
(8785, ⟨[i 3, i 1, i 0, i 1, i 1], 116, 5, none⟩),
(8800, ⟨[i 3, i 1, i 0, i 1, i 2], 116, 5, none⟩),
(8835, ⟨[i 2, i 1, i 0, i 0, i 0], 116, 5, none⟩),
(8840, ⟨[i 1, i 2, i 0, i 0, i 0], 116, 5, none⟩),
(8880, ⟨[i 5, i 0, i 0, i 0, i 0], 116, 5, none⟩),
(8897, ⟨[i 4, i 1, i 0, i 1, i 0, i 6, i 0, i 0, i 1, i 0], 116, 5, none⟩),
(8914, ⟨[i 6, i 0, i 0, i 1, i 1], 116, 5, none⟩),
(8931, ⟨[i 6, i 0, i 0, i 1, i 2], 116, 5, none⟩),
(8959, ⟨[i 2, i 2, i 0, i 0, i 0], 116, 5, none⟩),
(8964, ⟨[i 1, i 4, i 0, i 0, i 0], 116, 5, none⟩),
(9002, ⟨[i 5, i 1, i 0, i 0, i 0], 116, 5, none⟩),
(9017, ⟨[i 4, i 2, i 0, i 1, i 0, i 6, i 1, i 0, i 1, i 0], 116, 5, none⟩),
(9045, ⟨[i 2, i 3, i 0, i 0, i 0], 116, 5, none⟩),
(9050, ⟨[i 1, i 6, i 0, i 0, i 0], 116, 5, none⟩),
(9088, ⟨[i 5, i 2, i 0, i 0, i 0], 116, 5, none⟩),
(9103, ⟨[i 4, i 3, i 0, i 1, i 0, i 6, i 2, i 0, i 1, i 0], 116, 5, none⟩),
(9131, ⟨[i 2, i 4, i 0, i 0, i 0], 116, 5, none⟩),
(9136, ⟨[i 1, i 8, i 0, i 0, i 0], 116, 5, none⟩),
(9174, ⟨[i 5, i 3, i 0, i 0, i 0], 116, 5, none⟩),
(9189, ⟨[i 4, i 4, i 0, i 1, i 0, i 6, i 3, i 0, i 1, i 0], 116, 5, none⟩),
(9217, ⟨[i 2, i 5, i 0, i 0, i 0], 116, 5, none⟩),
(9222, ⟨[i 1, i 10, i 0, i 0, i 0], 116, 5, none⟩),
(9260, ⟨[i 5, i 4, i 0, i 0, i 0], 116, 5, none⟩),
(9275, ⟨[i 4, i 5, i 0, i 1, i 0, i 6, i 4, i 0, i 1, i 0], 116, 5, none⟩),
(9303, ⟨[i 2, i 6, i 0, i 0, i 0], 116, 5, none⟩),
(9308, ⟨[i 1, i 12, i 0, i 0, i 0], 116, 5, none⟩),
(9346, ⟨[i 5, i 5, i 0, i 0, i 0], 116, 5, none⟩),
(9361, ⟨[i 4, i 6, i 0, i 1, i 0, i 6, i 5, i 0, i 1, i 0], 116, 5, none⟩),
(9414, ⟨[i 5, i 6, i 0, i 0, i 0], 116, 5, none⟩),
(9429, ⟨[i 1, i 14, i 0, i 0, i 0, i 6, i 6, i 0, i 1, i 0], 116, 5, none⟩)]
private noncomputable def m0 : MM := ⟨[48], l0, 102, [⟨48, 0, [.v (.c (.ptr 12 0))], .v (.c (.nili))⟩]⟩
private theorem m0_k : H0.tbl m0 = true := by kernel_rfl
private noncomputable def h1 : HK := H0.memo m0 m0_k
private noncomputable def m1 : MM := ⟨[155], l1, 221, [⟨155, 0, [.v (.c (.ptr 12 0)), .v (.c (i 0))], .tup [.agg [i 0, i 0, i 0], .c (.bool true)]⟩,
⟨155, 1, [.v (.c (.ptr 12 0)), .v (.c (i 1))], .tup [.agg [i 0, i 0, i 1], .c (.bool true)]⟩,
⟨155, 2, [.v (.c (.ptr 12 0)), .v (.c (i 2))], .tup [.agg [i 0, i 0, i 2], .c (.bool true)]⟩,
⟨155, 3, [.v (.c (.ptr 12 0)), .v (.c (i 3))], .tup [.agg [i 0, i 0, i 3], .c (.bool true)]⟩,
⟨155, 4, [.v (.c (.ptr 12 0)), .v (.c (i 4))], .tup [.agg [i 1, i 0, i 0], .c (.bool true)]⟩,
⟨155, 5, [.v (.c (.ptr 12 0)), .v (.c (i 5))], .tup [.agg [i 1, i 0, i 1], .c (.bool true)]⟩,
⟨155, 6, [.v (.c (.ptr 12 0)), .v (.c (i 6))], .tup [.agg [i 2, i 0, i 0], .c (.bool true)]⟩,
⟨155, 7, [.v (.c (.ptr 12 0)), .v (.c (i 7))], .tup [.agg [i 2, i 0, i 1], .c (.bool true)]⟩,
⟨155, 8, [.v (.c (.ptr 12 0)), .v (.c (i 8))], .tup [.agg [i 3, i 0, i 0], .c (.bool true)]⟩,
⟨155, 9, [.v (.c (.ptr 12 0)), .v (.c (i 9))], .tup [.agg [i 3, i 0, i 1], .c (.bool true)]⟩,
⟨155, 10, [.v (.c (.ptr 12 0)), .v (.c (i 10))], .tup [.agg [i 4, i 0, i 0], .c (.bool true)]⟩,
⟨155, 11, [.v (.c (.ptr 12 0)), .v (.c (i 11))], .tup [.agg [i 4, i 0, i 1], .c (.bool true)]⟩,
⟨155, 12, [.v (.c (.ptr 12 0)), .v (.c (i 12))], .tup [.agg [i 5, i 0, i 0], .c (.bool true)]⟩,
⟨155, 13, [.v (.c (.ptr 12 0)), .v (.c (i 13))], .tup [.agg [i 5, i 0, i 1], .c (.bool true)]⟩,
⟨155, 14, [.v (.c (.ptr 12 0)), .v (.c (i 14))], .tup [.agg [i 6, i 0, i 0], .c (.bool true)]⟩,
⟨155, 15, [.v (.c (.ptr 12 0)), .v (.c (i 15))], .tup [.agg [i 6, i 0, i 1], .c (.bool true)]⟩]⟩
private theorem m1_k : h1.tbl m1 = true := by kernel_rfl
private noncomputable def h2 : HK := h1.memo m1 m1_k
private noncomputable def s1 : RE := ⟨76, [.v (.c (.ptr 12 0))], 102, .v (.c (.ptr 102 0)), l2, 312⟩
private theorem s1_k : h2.srp l0 s1 = true := by kernel_rfl
private noncomputable def h3 : HK := h2.srep _ s1 s1_k
private noncomputable def s2 : RE := ⟨49, [.v (.c (.ptr 12 0)), .v (.c (.snil))], 102, .v (.c (.ptr 366 0)), l3, 4784⟩
private theorem s2_k : h3.rep l0 s2 = true := by kernel_rfl
private noncomputable def h4 : HK := h3.repl _ s2 s2_k
private noncomputable def s3 : RE := ⟨151, [.v (.c (.ptr 12 0)), .v (.c (.ptr 366 0)), .v (.c (i 2))], 4984, .v (.c (.snil)), [], 5141⟩
private theorem s3_k : h4.srp l4 s3 = true := by kernel_rfl
private noncomputable def h5 : HK := h4.srep _ s3 s3_k
private noncomputable def s4 : RE := ⟨151, [.v (.c (.ptr 12 0)), .v (.c (.ptr 366 0)), .v (.c (i 4))], 5157, .v (.c (.snil)), [], 5305⟩
private theorem s4_k : h5.srp l4 s4 = true := by kernel_rfl
private noncomputable def h6 : HK := h5.srep _ s4 s4_k
private noncomputable def s5 : RE := ⟨151, [.v (.c (.ptr 12 0)), .v (.c (.ptr 366 0)), .v (.c (i 6))], 5321, .v (.c (.snil)), [], 5460⟩
private theorem s5_k : h6.srp l4 s5 = true := by kernel_rfl
private noncomputable def h7 : HK := h6.srep _ s5 s5_k
private noncomputable def s6 : RE := ⟨151, [.v (.c (.ptr 12 0)), .v (.c (.ptr 366 0)), .v (.c (i 8))], 5476, .v (.c (.snil)), [], 5606⟩
private theorem s6_k : h7.srp l4 s6 = true := by kernel_rfl
private noncomputable def h8 : HK := h7.srep _ s6 s6_k
private noncomputable def s7 : RE := ⟨151, [.v (.c (.ptr 12 0)), .v (.c (.ptr 366 0)), .v (.c (i 10))], 5622, .v (.c (.snil)), [], 5743⟩
private theorem s7_k : h8.srp l4 s7 = true := by kernel_rfl
private noncomputable def h9 : HK := h8.srep _ s7 s7_k
private noncomputable def s8 : RE := ⟨151, [.v (.c (.ptr 12 0)), .v (.c (.ptr 366 0)), .v (.c (i 12))], 5759, .v (.c (.snil)), [], 5871⟩
private theorem s8_k : h9.srp l4 s8 = true := by kernel_rfl
private noncomputable def h10 : HK := h9.srep _ s8 s8_k
private noncomputable def s9 : RE := ⟨85, [.v (.c (.ptr 12 0)), .v (.c (.ptr 366 0)), .v (.c (i 0))], 5913, .v (.c (o 6256 0 3)), [(6256, ⟨[i 1, i 0, i 1, i 1, i 1, i 2, i 0, i 0], 114, 2, none⟩)], 6272⟩
private theorem s9_k : h10.srp l4 s9 = true := by kernel_rfl
private noncomputable def h11 : HK := h10.srep _ s9 s9_k
private noncomputable def s10 : RE := ⟨86, [.v (.c (.ptr 12 0)), .v (.c (.ptr 366 0)), .v (.c (i 0))], 6274, .v (.c (o 6370 0 3)), [(6370, ⟨[i 1, i 0, i 1, i 1, i 1, i 2], 114, 2, none⟩)], 6447⟩
private theorem s10_k : h11.srp l4 s10 = true := by kernel_rfl
private noncomputable def h12 : HK := h11.srep _ s10 s10_k
private noncomputable def s11 : RE := ⟨85, [.v (.c (.ptr 12 0)), .v (.c (.ptr 366 0)), .v (.c (i 1))], 6449, .v (.c (o 6745 0 1)), [(6745, ⟨[i 1, i 0], 114, 2, none⟩)], 6746⟩
private theorem s11_k : h12.srp l4 s11 = true := by kernel_rfl
private noncomputable def h13 : HK := h12.srep _ s11 s11_k
private noncomputable def s12 : RE := ⟨86, [.v (.c (.ptr 12 0)), .v (.c (.ptr 366 0)), .v (.c (i 1))], 6748, .v (.c (.snil)), [], 6891⟩
private theorem s12_k : h13.srp l4 s12 = true := by kernel_rfl
private noncomputable def h14 : HK := h13.srep _ s12 s12_k
private noncomputable def s13 : RE := ⟨85, [.v (.c (.ptr 12 0)), .v (.c (.ptr 366 0)), .v (.c (i 2))], 6893, .v (.c (o 7171 0 1)), [(7171, ⟨[i 1, i 0], 114, 2, none⟩)], 7172⟩
private theorem s13_k : h14.srp l4 s13 = true := by kernel_rfl
private noncomputable def h15 : HK := h14.srep _ s13 s13_k
private noncomputable def s14 : RE := ⟨86, [.v (.c (.ptr 12 0)), .v (.c (.ptr 366 0)), .v (.c (i 2))], 7174, .v (.c (.snil)), [], 7308⟩
private theorem s14_k : h15.srp l4 s14 = true := by kernel_rfl
private noncomputable def h16 : HK := h15.srep _ s14 s14_k
private noncomputable def s15 : RE := ⟨85, [.v (.c (.ptr 12 0)), .v (.c (.ptr 366 0)), .v (.c (i 3))], 7310, .v (.c (o 7570 0 1)), [(7570, ⟨[i 1, i 0], 114, 2, none⟩)], 7571⟩
private theorem s15_k : h16.srp l4 s15 = true := by kernel_rfl
private noncomputable def h17 : HK := h16.srep _ s15 s15_k
private noncomputable def s16 : RE := ⟨86, [.v (.c (.ptr 12 0)), .v (.c (.ptr 366 0)), .v (.c (i 3))], 7573, .v (.c (.snil)), [], 7698⟩
private theorem s16_k : h17.srp l4 s16 = true := by kernel_rfl
private noncomputable def h18 : HK := h17.srep _ s16 s16_k
private noncomputable def s17 : RE := ⟨85, [.v (.c (.ptr 12 0)), .v (.c (.ptr 366 0)), .v (.c (i 4))], 7700, .v (.c (o 7942 0 1)), [(7942, ⟨[i 1, i 0], 114, 2, none⟩)], 7943⟩
private theorem s17_k : h18.srp l4 s17 = true := by kernel_rfl
private noncomputable def h19 : HK := h18.srep _ s17 s17_k
private noncomputable def s18 : RE := ⟨86, [.v (.c (.ptr 12 0)), .v (.c (.ptr 366 0)), .v (.c (i 4))], 7945, .v (.c (.snil)), [], 8061⟩
private theorem s18_k : h19.srp l4 s18 = true := by kernel_rfl
private noncomputable def h20 : HK := h19.srep _ s18 s18_k
private noncomputable def s19 : RE := ⟨85, [.v (.c (.ptr 12 0)), .v (.c (.ptr 366 0)), .v (.c (i 5))], 8063, .v (.c (o 8287 0 1)), [(8287, ⟨[i 1, i 0], 114, 2, none⟩)], 8288⟩
private theorem s19_k : h20.srp l4 s19 = true := by kernel_rfl
private noncomputable def h21 : HK := h20.srep _ s19 s19_k
private noncomputable def s20 : RE := ⟨86, [.v (.c (.ptr 12 0)), .v (.c (.ptr 366 0)), .v (.c (i 5))], 8290, .v (.c (.snil)), [], 8397⟩
private theorem s20_k : h21.srp l4 s20 = true := by kernel_rfl
private noncomputable def h22 : HK := h21.srep _ s20 s20_k
private noncomputable def s21 : RE := ⟨85, [.v (.c (.ptr 12 0)), .v (.c (.ptr 366 0)), .v (.c (i 6))], 8399, .v (.c (o 8605 0 1)), [(8605, ⟨[i 1, i 0], 114, 2, none⟩)], 8606⟩
private theorem s21_k : h22.srp l4 s21 = true := by kernel_rfl
private noncomputable def h23 : HK := h22.srep _ s21 s21_k
private noncomputable def s22 : RE := ⟨86, [.v (.c (.ptr 12 0)), .v (.c (.ptr 366 0)), .v (.c (i 6))], 8608, .v (.c (.snil)), [], 8706⟩
private theorem s22_k : h23.srp l4 s22 = true := by kernel_rfl
private noncomputable def h24 : HK := h23.srep _ s22 s22_k
private noncomputable def s23 : RE := ⟨50, [.v (.c (.ptr 12 0)), .v (.c (.ptr 366 0))], 4784, .v (.c (.ptr 5911 0)), l5, 9431⟩
private theorem s23_k : h24.rep l4 s23 = true := by kernel_rfl
private noncomputable def h25 : HK := h24.repl _ s23 s23_k
theorem TopNilParam_5_f_run : isBool true (runW h25.K 12 [mi 8 5, ab false] s0) = true := by kernel_rfl
theorem TopNilParam_5_f_law {args : Array Value} (ha : VAs (fun _ => none) [mi 8 5, ab false] args.toList) (w : World) (hT : Tab w) :
    Calls Tryz.prog 12 args w fun e w' => Below w.heap.size w w' ∧ e = .returned (.bool true) := h25.law TopNilParam_5_f_run ha w hT
end Go.Proofs.YteajpblmbmncdaaGreatDoor
