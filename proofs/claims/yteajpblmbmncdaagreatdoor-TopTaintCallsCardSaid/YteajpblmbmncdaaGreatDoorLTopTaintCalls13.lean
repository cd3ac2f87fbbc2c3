/- Tables of calls, and a run that uses them. -/
import Derived.Test.YteajpblmbmncdaaGreatDoorLn
namespace Go.Proofs.YteajpblmbmncdaaGreatDoor
open Go Go.RowKit Ev
set_option maxRecDepth 100000
set_option linter.unusedVariables false
private noncomputable abbrev i (n : Nat) : CV := .int .i64 (.ofNat n)
private noncomputable abbrev o (b a n : Nat) : CV := .slice b a n (.opn 0)
private noncomputable abbrev f (b a n : Nat) : CV := .slice b a n (.fix n)
private noncomputable abbrev e (k t : Nat) : Nat × BK := (k, ⟨[.snil], t, 0, none⟩)
private noncomputable abbrev l0 : Bls := [(1, ⟨[i 0, i 0, i 0, i 0, i 1, i 0], 69, 0, none⟩),
(2, ⟨[f 1 0 3], 47, 0, none⟩),
(4, ⟨[i 1, i 0], 69, 0, none⟩),
(5, ⟨[i 0, i 0], 69, 0, none⟩),
(7, ⟨[i 1, i 0], 69, 0, none⟩),
(9, ⟨[.snil, i 0, i 0, f 4 0 1, i 0, i 0, f 5 0 1, i 0, i 0, f 7 0 1, i 1, i 0], 72, 0, none⟩),
(10, ⟨[i 0], 3, 0, none⟩),
(11, ⟨[f 10 0 1], 74, 0, none⟩),
(12, ⟨[f 2 0 1, f 9 0 4, f 11 0 1, .snil, o 109 0 8, i 0], 57, 0, none⟩),
(19, ⟨[i 0, i 0, i 0, i 0], 69, 2, none⟩),
(20, ⟨[o 29 0 3, i 3, i 0, i 0, i 0], 46, 0, none⟩),
(25, ⟨[i 0], 3, 0, none⟩),
(29, ⟨[i 3, i 0, i 0, i 0, i 0, .snil, i 12, i 1, i 0, i 0, i 1, f 25 0 1, i 15, i 0, i 1, i 0, i 0, .snil], 29, 6, none⟩),
(34, ⟨[i 0, i 0, i 0, i 0], 69, 2, none⟩),
(35, ⟨[o 41 0 1, i 3, i 0, i 0, i 0], 46, 0, none⟩),
(38, ⟨[i 0], 3, 0, none⟩),
(41, ⟨[i 12, i 0, i 0, i 0, i 2, f 38 0 1], 29, 6, none⟩),
(46, ⟨[i 0, i 0, i 0, i 0], 69, 2, none⟩),
(47, ⟨[o 53 0 1, i 3, i 0, i 0, i 0], 46, 0, none⟩),
(50, ⟨[i 0], 3, 0, none⟩),
(53, ⟨[i 12, i 0, i 0, i 0, i 3, f 50 0 1], 29, 6, none⟩),
(58, ⟨[i 0, i 0, i 0, i 0], 69, 2, none⟩),
(59, ⟨[o 65 0 1, i 3, i 0, i 0, i 0], 46, 0, none⟩),
(62, ⟨[i 0], 3, 0, none⟩),
(65, ⟨[i 12, i 0, i 0, i 0, i 4, f 62 0 1], 29, 6, none⟩),
(70, ⟨[i 0, i 0, i 0, i 0], 69, 2, none⟩),
(71, ⟨[o 77 0 1, i 3, i 0, i 0, i 0], 46, 0, none⟩),
(74, ⟨[i 0], 3, 0, none⟩),
(77, ⟨[i 12, i 0, i 0, i 0, i 5, f 74 0 1], 29, 6, none⟩),
(82, ⟨[i 0, i 0, i 0, i 0], 69, 2, none⟩),
(83, ⟨[o 89 0 1, i 3, i 0, i 0, i 0], 46, 0, none⟩),
(86, ⟨[i 0], 3, 0, none⟩),
(89, ⟨[i 12, i 0, i 0, i 0, i 6, f 86 0 1], 29, 6, none⟩),
(94, ⟨[i 0, i 0, i 0, i 0], 69, 2, none⟩),
(95, ⟨[o 101 0 1, i 3, i 0, i 0, i 0], 46, 0, none⟩),
(98, ⟨[i 0], 3, 0, none⟩),
(101, ⟨[i 12, i 0, i 0, i 0, i 7, f 98 0 1], 29, 6, none⟩),
(106, ⟨[i 0, i 0, i 0, i 0], 69, 2, none⟩),
(107, ⟨[.snil, i 3, i 0, i 0, i 0], 46, 0, none⟩),
(109, ⟨[i 0, o 19 0 2, f 20 0 1, i 2, o 34 0 2, f 35 0 1, i 2, o 46 0 2, f 47 0 1, i 2, o 58 0 2, f 59 0 1, i 2, o 70 0 2, f 71 0 1, i 2, o 82 0 2, f 83 0 1, i 2, o 94 0 2, f 95 0 1, i 2, o 106 0 2, f 107 0 1], 50, 3, none⟩)]
private noncomputable abbrev l1 : Bls := [(12, ⟨[f 2 0 1, f 9 0 4, f 11 0 1, .snil, o 109 0 8, i 0], 57, 0, none⟩),
(20, ⟨[o 29 0 3, i 3, i 0, i 0, i 0], 46, 0, none⟩),
(35, ⟨[o 41 0 1, i 3, i 0, i 0, i 0], 46, 0, none⟩),
(47, ⟨[o 53 0 1, i 3, i 0, i 0, i 0], 46, 0, none⟩),
(59, ⟨[o 65 0 1, i 3, i 0, i 0, i 0], 46, 0, none⟩),
(71, ⟨[o 77 0 1, i 3, i 0, i 0, i 0], 46, 0, none⟩),
(83, ⟨[o 89 0 1, i 3, i 0, i 0, i 0], 46, 0, none⟩),
(95, ⟨[o 101 0 1, i 3, i 0, i 0, i 0], 46, 0, none⟩),
(107, ⟨[.snil, i 3, i 0, i 0, i 0], 46, 0, none⟩),
(109, ⟨[i 0, o 19 0 2, f 20 0 1, i 2, o 34 0 2, f 35 0 1, i 2, o 46 0 2, f 47 0 1, i 2, o 58 0 2, f 59 0 1, i 2, o 70 0 2, f 71 0 1, i 2, o 82 0 2, f 83 0 1, i 2, o 94 0 2, f 95 0 1, i 2, o 106 0 2, f 107 0 1], 50, 3, none⟩)]
private noncomputable abbrev l2 : Bls := [(111, ⟨[o 203 0 8, o 207 0 8, .snil, .snil, .snil, i 24], 230, 0, none⟩),
(117, ⟨[i 0, i 1], 3, 1, none⟩),
(129, ⟨[i 3, i 4], 3, 1, none⟩),
(141, ⟨[i 6, i 7], 3, 1, none⟩),
(153, ⟨[i 9, i 10], 3, 1, none⟩),
(165, ⟨[i 12, i 13], 3, 1, none⟩),
(177, ⟨[i 15, i 16], 3, 1, none⟩),
(189, ⟨[i 18, i 19], 3, 1, none⟩),
(201, ⟨[i 21, i 22], 3, 1, none⟩),
(203, ⟨[o 117 0 2, o 129 0 2, o 141 0 2, o 153 0 2, o 165 0 2, o 177 0 2, o 189 0 2, o 201 0 2], 27, 1, none⟩),
(207, ⟨[i 2, i 5, i 8, i 11, i 14, i 17, i 20, i 23], 3, 1, none⟩)]
private noncomputable abbrev l3 : Bls := [(111, ⟨[o 203 0 8, o 207 0 8, .snil, .snil, .snil, i 24], 230, 0, none⟩),
(117, ⟨[i 0, i 1], 3, 1, none⟩),
(129, ⟨[i 3, i 4], 3, 1, none⟩),
(141, ⟨[i 6, i 7], 3, 1, none⟩),
(153, ⟨[i 9, i 10], 3, 1, none⟩),
(165, ⟨[i 12, i 13], 3, 1, none⟩),
(177, ⟨[i 15, i 16], 3, 1, none⟩),
(189, ⟨[i 18, i 19], 3, 1, none⟩),
(201, ⟨[i 21, i 22], 3, 1, none⟩),
(203, ⟨[o 117 0 2, o 129 0 2, o 141 0 2, o 153 0 2, o 165 0 2, o 177 0 2, o 189 0 2, o 201 0 2], 27, 1, none⟩),
(207, ⟨[i 2, i 5, i 8, i 11, i 14, i 17, i 20, i 23], 3, 1, none⟩),
(327, ⟨[o 375 0 24], 233, 0, none⟩),
(375, ⟨[i 0, i 1, i 2, i 3, i 4, i 5, i 6, i 7, i 8, i 9, i 10, i 11, i 12, i 13, i 14, i 15, i 16, i 17, i 18, i 19, i 20, i 21, i 22, i 23], 3, 1, none⟩),
(376, ⟨[.snil, .snil, .snil, .snil, .snil, .snil, .snil, .snil, .snil, .snil, .snil, .snil, .snil, .snil, .snil, .snil, .snil, .snil, .snil, .snil, .snil, .snil, .snil, .snil], 238, 0, none⟩),
(377, ⟨[o 599 0 1], 139, 0, none⟩),
(378, ⟨[], 0, 0, some (.map [(0, .agg [i 1, i 1], .c (.bool true)), (1, .agg [i 4, i 2], .c (.bool true)), (2, .agg [i 6, i 3], .c (.bool true)), (3, .agg [i 8, i 4], .c (.bool true)), (4, .agg [i 10, i 5], .c (.bool true)), (5, .agg [i 12, i 6], .c (.bool true)), (6, .agg [i 14, i 7], .c (.bool true))] 7)⟩),
(379, ⟨[], 0, 0, some (.map [] 0)⟩),
(380, ⟨[.snil, .snil, .map 379, i 0], 237, 0, none⟩),
(381, ⟨[.ptr 12 0, .ptr 111 0, .ptr 327 0, o 591 0 24, o 594 0 24, o 597 0 24, f 376 0 24, .ptr 377 0, .map 378, .ptr 380 0], 145, 0, none⟩),
e 382 139,
e 385 139,
e 388 139,
e 391 139,
e 394 139,
e 397 139,
e 400 139,
e 403 139,
e 406 139,
e 409 139,
e 412 139,
e 415 139,
e 418 139,
e 421 139,
e 424 139,
e 427 139,
e 430 139,
e 433 139,
e 436 139,
e 439 139,
e 442 139,
e 445 139,
e 448 139,
e 451 139,
e 454 139,
e 457 139,
e 460 139,
e 463 139,
e 466 139,
e 469 139,
e 472 139,
e 475 139,
e 478 139,
e 481 139,
e 484 139,
e 487 139,
e 490 139,
e 493 139,
e 496 139,
e 499 139,
e 502 139,
e 505 139,
e 508 139,
e 511 139,
e 514 139,
e 517 139,
e 520 139,
e 523 139,
e 526 139,
e 529 139,
e 532 139,
e 535 139,
e 538 139,
e 541 139,
e 544 139,
e 547 139,
e 550 139,
e 553 139,
e 556 139,
e 559 139,
e 562 139,
e 565 139,
e 568 139,
e 571 139,
e 574 139,
e 577 139,
e 580 139,
e 583 139,
e 586 139,
e 589 139,
(591, ⟨[.ptr 382 0, .ptr 391 0, .ptr 400 0, .ptr 409 0, .ptr 418 0, .ptr 427 0, .ptr 436 0, .ptr 445 0, .ptr 454 0, .ptr 463 0, .ptr 472 0, .ptr 481 0, .ptr 490 0, .ptr 499 0, .ptr 508 0, .ptr 517 0, .ptr 526 0, .ptr 535 0, .ptr 544 0, .ptr 553 0, .ptr 562 0, .ptr 571 0, .ptr 580 0, .ptr 589 0], 136, 1, none⟩),
e 592 139,
(594, ⟨[.ptr 385 0, .ptr 394 0, .ptr 403 0, .ptr 412 0, .ptr 421 0, .ptr 430 0, .ptr 439 0, .ptr 448 0, .ptr 457 0, .ptr 466 0, .ptr 475 0, .ptr 484 0, .ptr 493 0, .ptr 502 0, .ptr 511 0, .ptr 520 0, .ptr 529 0, .ptr 538 0, .ptr 547 0, .ptr 556 0, .ptr 565 0, .ptr 574 0, .ptr 583 0, .ptr 592 0], 136, 1, none⟩),
e 595 139,
(597, ⟨[.ptr 388 0, .ptr 397 0, .ptr 406 0, .ptr 415 0, .ptr 424 0, .ptr 433 0, .ptr 442 0, .ptr 451 0, .ptr 460 0, .ptr 469 0, .ptr 478 0, .ptr 487 0, .ptr 496 0, .ptr 505 0, .ptr 514 0, .ptr 523 0, .ptr 532 0, .ptr 541 0, .ptr 550 0, .ptr 559 0, .ptr 568 0, .ptr 577 0, .ptr 586 0, .ptr 595 0], 136, 1, none⟩),
(599, ⟨[.int .u64 (.ofNat 255)], 224, 1, none⟩)]
private noncomputable abbrev l4 : Bls := [(1, ⟨[i 0, i 0, i 0, i 0, i 1, i 0], 69, 0, none⟩),
(2, ⟨[f 1 0 3], 47, 0, none⟩),
(4, ⟨[i 1, i 0], 69, 0, none⟩),
(5, ⟨[i 0, i 0], 69, 0, none⟩),
(7, ⟨[i 1, i 0], 69, 0, none⟩),
(9, ⟨[.snil, i 0, i 0, f 4 0 1, i 0, i 0, f 5 0 1, i 0, i 0, f 7 0 1, i 1, i 0], 72, 0, none⟩),
(10, ⟨[i 0], 3, 0, none⟩),
(11, ⟨[f 10 0 1], 74, 0, none⟩),
(12, ⟨[f 2 0 1, f 9 0 4, f 11 0 1, .snil, o 109 0 8, i 0], 57, 0, none⟩),
(19, ⟨[i 0, i 0, i 0, i 0], 69, 2, none⟩),
(20, ⟨[o 29 0 3, i 3, i 0, i 0, i 0], 46, 0, none⟩),
(25, ⟨[i 0], 3, 0, none⟩),
(29, ⟨[i 3, i 0, i 0, i 0, i 0, .snil, i 12, i 1, i 0, i 0, i 1, f 25 0 1, i 15, i 0, i 1, i 0, i 0, .snil], 29, 6, none⟩),
(34, ⟨[i 0, i 0, i 0, i 0], 69, 2, none⟩),
(35, ⟨[o 41 0 1, i 3, i 0, i 0, i 0], 46, 0, none⟩),
(38, ⟨[i 0], 3, 0, none⟩),
(41, ⟨[i 12, i 0, i 0, i 0, i 2, f 38 0 1], 29, 6, none⟩),
(46, ⟨[i 0, i 0, i 0, i 0], 69, 2, none⟩),
(47, ⟨[o 53 0 1, i 3, i 0, i 0, i 0], 46, 0, none⟩),
(50, ⟨[i 0], 3, 0, none⟩),
(53, ⟨[i 12, i 0, i 0, i 0, i 3, f 50 0 1], 29, 6, none⟩),
(58, ⟨[i 0, i 0, i 0, i 0], 69, 2, none⟩),
(59, ⟨[o 65 0 1, i 3, i 0, i 0, i 0], 46, 0, none⟩),
(62, ⟨[i 0], 3, 0, none⟩),
(65, ⟨[i 12, i 0, i 0, i 0, i 4, f 62 0 1], 29, 6, none⟩),
(70, ⟨[i 0, i 0, i 0, i 0], 69, 2, none⟩),
(71, ⟨[o 77 0 1, i 3, i 0, i 0, i 0], 46, 0, none⟩),
(74, ⟨[i 0], 3, 0, none⟩),
(77, ⟨[i 12, i 0, i 0, i 0, i 5, f 74 0 1], 29, 6, none⟩),
(82, ⟨[i 0, i 0, i 0, i 0], 69, 2, none⟩),
(83, ⟨[o 89 0 1, i 3, i 0, i 0, i 0], 46, 0, none⟩),
(86, ⟨[i 0], 3, 0, none⟩),
(89, ⟨[i 12, i 0, i 0, i 0, i 6, f 86 0 1], 29, 6, none⟩),
(94, ⟨[i 0, i 0, i 0, i 0], 69, 2, none⟩),
(95, ⟨[o 101 0 1, i 3, i 0, i 0, i 0], 46, 0, none⟩),
(98, ⟨[i 0], 3, 0, none⟩),
(101, ⟨[i 12, i 0, i 0, i 0, i 7, f 98 0 1], 29, 6, none⟩),
(106, ⟨[i 0, i 0, i 0, i 0], 69, 2, none⟩),
(107, ⟨[.snil, i 3, i 0, i 0, i 0], 46, 0, none⟩),
(109, ⟨[i 0, o 19 0 2, f 20 0 1, i 2, o 34 0 2, f 35 0 1, i 2, o 46 0 2, f 47 0 1, i 2, o 58 0 2, f 59 0 1, i 2, o 70 0 2, f 71 0 1, i 2, o 82 0 2, f 83 0 1, i 2, o 94 0 2, f 95 0 1, i 2, o 106 0 2, f 107 0 1], 50, 3, none⟩),
(111, ⟨[o 203 0 8, o 207 0 8, .snil, .snil, .snil, i 24], 230, 0, none⟩),
(117, ⟨[i 0, i 1], 3, 1, none⟩),
(129, ⟨[i 3, i 4], 3, 1, none⟩),
(141, ⟨[i 6, i 7], 3, 1, none⟩),
(153, ⟨[i 9, i 10], 3, 1, none⟩),
(165, ⟨[i 12, i 13], 3, 1, none⟩),
(177, ⟨[i 15, i 16], 3, 1, none⟩),
(189, ⟨[i 18, i 19], 3, 1, none⟩),
(201, ⟨[i 21, i 22], 3, 1, none⟩),
(203, ⟨[o 117 0 2, o 129 0 2, o 141 0 2, o 153 0 2, o 165 0 2, o 177 0 2, o 189 0 2, o 201 0 2], 27, 1, none⟩),
(207, ⟨[i 2, i 5, i 8, i 11, i 14, i 17, i 20, i 23], 3, 1, none⟩),
(327, ⟨[o 375 0 24], 233, 0, none⟩),
(375, ⟨[i 0, i 1, i 2, i 3, i 4, i 5, i 6, i 7, i 8, i 9, i 10, i 11, i 12, i 13, i 14, i 15, i 16, i 17, i 18, i 19, i 20, i 21, i 22, i 23], 3, 1, none⟩),
(376, ⟨[.snil, .snil, .snil, .snil, .snil, .snil, .snil, .snil, .snil, .snil, .snil, .snil, .snil, .snil, .snil, .snil, .snil, .snil, .snil, .snil, .snil, .snil, .snil, .snil], 238, 0, none⟩),
(377, ⟨[o 599 0 1], 139, 0, none⟩),
(378, ⟨[], 0, 0, some (.map [(0, .agg [i 1, i 1], .c (.bool true)), (1, .agg [i 4, i 2], .c (.bool true)), (2, .agg [i 6, i 3], .c (.bool true)), (3, .agg [i 8, i 4], .c (.bool true)), (4, .agg [i 10, i 5], .c (.bool true)), (5, .agg [i 12, i 6], .c (.bool true)), (6, .agg [i 14, i 7], .c (.bool true))] 7)⟩),
(379, ⟨[], 0, 0, some (.map [] 0)⟩),
(380, ⟨[.snil, .snil, .map 379, i 0], 237, 0, none⟩),
(381, ⟨[.ptr 12 0, .ptr 111 0, .ptr 327 0, o 591 0 24, o 594 0 24, o 597 0 24, f 376 0 24, .ptr 377 0, .map 378, .ptr 380 0], 145, 0, none⟩),
e 382 139,
e 385 139,
e 388 139,
e 391 139,
e 394 139,
e 397 139,
e 400 139,
e 403 139,
e 406 139,
e 409 139,
e 412 139,
e 415 139,
e 418 139,
e 421 139,
e 424 139,
e 427 139,
e 430 139,
e 433 139,
e 436 139,
e 439 139,
e 442 139,
e 445 139,
e 448 139,
e 451 139,
e 454 139,
e 457 139,
e 460 139,
e 463 139,
e 466 139,
e 469 139,
e 472 139,
e 475 139,
e 478 139,
e 481 139,
e 484 139,
e 487 139,
e 490 139,
e 493 139,
e 496 139,
e 499 139,
e 502 139,
e 505 139,
e 508 139,
e 511 139,
e 514 139,
e 517 139,
e 520 139,
e 523 139,
e 526 139,
e 529 139,
e 532 139,
e 535 139,
e 538 139,
e 541 139,
e 544 139,
e 547 139,
e 550 139,
e 553 139,
e 556 139,
e 559 139,
e 562 139,
e 565 139,
e 568 139,
e 571 139,
e 574 139,
e 577 139,
e 580 139,
e 583 139,
e 586 139,
e 589 139,
(591, ⟨[.ptr 382 0, .ptr 391 0, .ptr 400 0, .ptr 409 0, .ptr 418 0, .ptr 427 0, .ptr 436 0, .ptr 445 0, .ptr 454 0, .ptr 463 0, .ptr 472 0, .ptr 481 0, .ptr 490 0, .ptr 499 0, .ptr 508 0, .ptr 517 0, .ptr 526 0, .ptr 535 0, .ptr 544 0, .ptr 553 0, .ptr 562 0, .ptr 571 0, .ptr 580 0, .ptr 589 0], 136, 1, none⟩),
e 592 139,
(594, ⟨[.ptr 385 0, .ptr 394 0, .ptr 403 0, .ptr 412 0, .ptr 421 0, .ptr 430 0, .ptr 439 0, .ptr 448 0, .ptr 457 0, .ptr 466 0, .ptr 475 0, .ptr 484 0, .ptr 493 0, .ptr 502 0, .ptr 511 0, .ptr 520 0, .ptr 529 0, .ptr 538 0, .ptr 547 0, .ptr 556 0, .ptr 565 0, .ptr 574 0, .ptr 583 0, .ptr 592 0], 136, 1, none⟩),
e 595 139,
(597, ⟨[.ptr 388 0, .ptr 397 0, .ptr 406 0, .ptr 415 0, .ptr 424 0, .ptr 433 0, .ptr 442 0, .ptr 451 0, .ptr 460 0, .ptr 469 0, .ptr 478 0, .ptr 487 0, .ptr 496 0, .ptr 505 0, .ptr 514 0, .ptr 523 0, .ptr 532 0, .ptr 541 0, .ptr 550 0, .ptr 559 0, .ptr 568 0, .ptr 577 0, .ptr 586 0, .ptr 595 0], 136, 1, none⟩),
(599, ⟨[.int .u64 (.ofNat 255)], 224, 1, none⟩)]
private noncomputable abbrev l5 : Bls := [(6738, ⟨[], 0, 0, some (.map [(0, .agg [i 1, i 0, i 0, i 0, i 0], .c (o 10104 0 2)), (1, .agg [i 5, i 1, i 0, i 0, i 0], .c (o 10058 0 1)), (2, .agg [i 2, i 1, i 0, i 0, i 0], .c (o 10133 0 1)), (3, .agg [i 5, i 2, i 0, i 0, i 0], .c (o 10138 0 1)), (4, .agg [i 1, i 4, i 0, i 0, i 0], .c (o 10163 0 1)), (5, .agg [i 2, i 2, i 0, i 0, i 0], .c (o 10192 0 1)), (6, .agg [i 5, i 3, i 0, i 0, i 0], .c (o 10197 0 1)), (7, .agg [i 1, i 6, i 0, i 0, i 0], .c (o 10222 0 1)), (8, .agg [i 2, i 3, i 0, i 0, i 0], .c (o 10251 0 1)), (9, .agg [i 5, i 4, i 0, i 0, i 0], .c (o 10256 0 1)), (10, .agg [i 1, i 8, i 0, i 0, i 0], .c (o 10281 0 1)), (11, .agg [i 2, i 4, i 0, i 0, i 0], .c (o 10310 0 1)), (12, .agg [i 5, i 5, i 0, i 0, i 0], .c (o 10315 0 1)), (13, .agg [i 1, i 10, i 0, i 0, i 0], .c (o 10340 0 1)), (14, .agg [i 2, i 5, i 0, i 0, i 0], .c (o 10369 0 1)), (15, .agg [i 5, i 6, i 0, i 0, i 0], .c (o 10374 0 1)), (16, .agg [i 1, i 12, i 0, i 0, i 0], .c (o 10399 0 1)), (17, .agg [i 2, i 6, i 0, i 0, i 0], .c (o 10428 0 1)), (18, .agg [i 5, i 7, i 0, i 0, i 0], .c (o 10433 0 1)), (19, .agg [i 1, i 14, i 0, i 0, i 0], .c (o 10458 0 1)), (20, .agg [i 2, i 7, i 0, i 0, i 0], .c (o 10475 0 1))] 21)⟩),
(6739, ⟨[.map 6738, .md 1 (.ofNat 0) true], 155, 0, none⟩),
(10058, ⟨[i 1, i 1, i 0, i 0, i 0], 116, 5, none⟩),
(10104, ⟨[i 2, i 1, i 0, i 0, i 0, i 5, i 0, i 0, i 0, i 0], 116, 5, none⟩),
(10133, ⟨[i 2, i 2, i 0, i 0, i 0], 116, 5, none⟩),
(10138, ⟨[i 1, i 4, i 0, i 0, i 0], 116, 5, none⟩),
(10163, ⟨[i 5, i 1, i 0, i 0, i 0], 116, 5, none⟩),
(10192, ⟨[i 2, i 3, i 0, i 0, i 0], 116, 5, none⟩),
(10197, ⟨[i 1, i 6, i 0, i 0, i 0], 116, 5, none⟩),
(10222, ⟨[i 5, i 2, i 0, i 0, i 0], 116, 5, none⟩),
(10251, ⟨[i 2, i 4, i 0, i 0, i 0], 116, 5, none⟩),
(10256, ⟨[i 1, i 8, i 0, i 0, i 0], 116, 5, none⟩),
(10281, ⟨[i 5, i 3, i 0, i 0, i 0], 116, 5, none⟩),
(10310, ⟨[i 2, i 5, i 0, i 0, i 0], 116, 5, none⟩),
(10315, ⟨[i 1, i 10, i 0, i 0, i 0], 116, 5, none⟩),
(10340, ⟨[i 5, i 4, i 0, i 0, i 0], 116, 5, none⟩),
(10369, ⟨[i 2, i 6, i 0, i 0, i 0], 116, 5, none⟩),
(10374, ⟨[i 1, i 12, i 0, i 0, i 0], 116, 5, none⟩),
(10399, ⟨[i 5, i 5, i 0, i 0, i 0], 116, 5, none⟩),
(10428, ⟨[i 2, i 7, i 0, i 0, i 0], 116, 5, none⟩),
(10433, ⟨[i 1, i 14, i 0, i 0, i 0], 116, 5, none⟩),
(10458, ⟨[i 5, i 6, i 0, i 0, i 0], 116, 5, none⟩),
(10475, ⟨[i 5, i 7, i 0, i 0, i 0], 116, 5, none⟩)]
private noncomputable def m0 : MM := ⟨[48], l0, 111, [⟨48, 0, [.v (.c (.ptr 12 0))], .v (.c (.nili))⟩]⟩
private theorem m0_k : H0.tbl m0 = true := by kernel_rfl
private noncomputable def h1 : HK := H0.memo m0 m0_k
private noncomputable def m1 : MM := ⟨[155], l1, 244, [⟨155, 0, [.v (.c (.ptr 12 0)), .v (.c (i 0))], .tup [.agg [i 0, i 0, i 0], .c (.bool true)]⟩,
⟨155, 1, [.v (.c (.ptr 12 0)), .v (.c (i 1))], .tup [.agg [i 0, i 0, i 1], .c (.bool true)]⟩,
⟨155, 2, [.v (.c (.ptr 12 0)), .v (.c (i 2))], .tup [.agg [i 0, i 0, i 2], .c (.bool true)]⟩,
⟨155, 3, [.v (.c (.ptr 12 0)), .v (.c (i 3))], .tup [.agg [i 0, i 0, i 3], .c (.bool true)]⟩,
⟨155, 4, [.v (.c (.ptr 12 0)), .v (.c (i 4))], .tup [.agg [i 1, i 0, i 0], .c (.bool true)]⟩,
⟨155, 5, [.v (.c (.ptr 12 0)), .v (.c (i 5))], .tup [.agg [i 1, i 0, i 1], .c (.bool true)]⟩,
⟨155, 6, [.v (.c (.ptr 12 0)), .v (.c (i 6))], .tup [.agg [i 2, i 0, i 0], .c (.bool true)]⟩,
⟨155, 7, [.v (.c (.ptr 12 0)), .v (.c (i 7))], .tup [.agg [i 2, i 0, i 1], .c (.bool true)]⟩,
⟨155, 8, [.v (.c (.ptr 12 0)), .v (.c (i 8))], .tup [.agg [i 3, i 0, i 0], .c (.bool true)]⟩,
⟨155, 9, [.v (.c (.ptr 12 0)), .v (.c (i 9))], .tup [.agg [i 3, i 0, i 1], .c (.bool true)]⟩,
⟨155, 10, [.v (.c (.ptr 12 0)), .v (.c (i 10))], .tup [.agg [i 4, i 0, i 0], .c (.bool true)]⟩,
⟨155, 11, [.v (.c (.ptr 12 0)), .v (.c (i 11))], .tup [.agg [i 4, i 0, i 1], .c (.bool true)]⟩,
⟨155, 12, [.v (.c (.ptr 12 0)), .v (.c (i 12))], .tup [.agg [i 5, i 0, i 0], .c (.bool true)]⟩,
⟨155, 13, [.v (.c (.ptr 12 0)), .v (.c (i 13))], .tup [.agg [i 5, i 0, i 1], .c (.bool true)]⟩,
⟨155, 14, [.v (.c (.ptr 12 0)), .v (.c (i 14))], .tup [.agg [i 6, i 0, i 0], .c (.bool true)]⟩,
⟨155, 15, [.v (.c (.ptr 12 0)), .v (.c (i 15))], .tup [.agg [i 6, i 0, i 1], .c (.bool true)]⟩,
⟨155, 16, [.v (.c (.ptr 12 0)), .v (.c (i 16))], .tup [.agg [i 7, i 0, i 0], .c (.bool true)]⟩]⟩
private theorem m1_k : h1.tbl m1 = true := by kernel_rfl
private noncomputable def h2 : HK := h1.memo m1 m1_k
private noncomputable def s1 : RE := ⟨76, [.v (.c (.ptr 12 0))], 111, .v (.c (.ptr 111 0)), l2, 327⟩
private theorem s1_k : h2.srp l0 s1 = true := by kernel_rfl
private noncomputable def h3 : HK := h2.srep _ s1 s1_k
private noncomputable def s2 : RE := ⟨49, [.v (.c (.ptr 12 0)), .v (.c (.snil))], 111, .v (.c (.ptr 381 0)), l3, 5418⟩
private theorem s2_k : h3.rep l0 s2 = true := by kernel_rfl
private noncomputable def h4 : HK := h3.repl _ s2 s2_k
private noncomputable def s3 : RE := ⟨151, [.v (.c (.ptr 12 0)), .v (.c (.ptr 381 0)), .v (.c (i 1))], 5602, .v (.c (.snil)), [], 5772⟩
private theorem s3_k : h4.srp l4 s3 = true := by kernel_rfl
private noncomputable def h5 : HK := h4.srep _ s3 s3_k
private noncomputable def s4 : RE := ⟨151, [.v (.c (.ptr 12 0)), .v (.c (.ptr 381 0)), .v (.c (i 4))], 5801, .v (.c (.snil)), [], 5962⟩
private theorem s4_k : h5.srp l4 s4 = true := by kernel_rfl
private noncomputable def h6 : HK := h5.srep _ s4 s4_k
private noncomputable def s5 : RE := ⟨151, [.v (.c (.ptr 12 0)), .v (.c (.ptr 381 0)), .v (.c (i 6))], 5978, .v (.c (.snil)), [], 6130⟩
private theorem s5_k : h6.srp l4 s5 = true := by kernel_rfl
private noncomputable def h7 : HK := h6.srep _ s5 s5_k
private noncomputable def s6 : RE := ⟨151, [.v (.c (.ptr 12 0)), .v (.c (.ptr 381 0)), .v (.c (i 8))], 6146, .v (.c (.snil)), [], 6289⟩
private theorem s6_k : h7.srp l4 s6 = true := by kernel_rfl
private noncomputable def h8 : HK := h7.srep _ s6 s6_k
private noncomputable def s7 : RE := ⟨151, [.v (.c (.ptr 12 0)), .v (.c (.ptr 381 0)), .v (.c (i 10))], 6305, .v (.c (.snil)), [], 6439⟩
private theorem s7_k : h8.srp l4 s7 = true := by kernel_rfl
private noncomputable def h9 : HK := h8.srep _ s7 s7_k
private noncomputable def s8 : RE := ⟨151, [.v (.c (.ptr 12 0)), .v (.c (.ptr 381 0)), .v (.c (i 12))], 6455, .v (.c (.snil)), [], 6580⟩
private theorem s8_k : h9.srp l4 s8 = true := by kernel_rfl
private noncomputable def h10 : HK := h9.srep _ s8 s8_k
private noncomputable def s9 : RE := ⟨151, [.v (.c (.ptr 12 0)), .v (.c (.ptr 381 0)), .v (.c (i 14))], 6596, .v (.c (.snil)), [], 6712⟩
private theorem s9_k : h10.srp l4 s9 = true := by kernel_rfl
private noncomputable def h11 : HK := h10.srep _ s9 s9_k
private noncomputable def s10 : RE := ⟨85, [.v (.c (.ptr 12 0)), .v (.c (.ptr 381 0)), .v (.c (i 0))], 6741, .v (.c (.snil)), [], 7085⟩
private theorem s10_k : h11.srp l4 s10 = true := by kernel_rfl
private noncomputable def h12 : HK := h11.srep _ s10 s10_k
private noncomputable def s11 : RE := ⟨86, [.v (.c (.ptr 12 0)), .v (.c (.ptr 381 0)), .v (.c (i 0))], 7087, .v (.c (.snil)), [], 7259⟩
private theorem s11_k : h12.srp l4 s11 = true := by kernel_rfl
private noncomputable def h13 : HK := h12.srep _ s11 s11_k
private noncomputable def s12 : RE := ⟨85, [.v (.c (.ptr 12 0)), .v (.c (.ptr 381 0)), .v (.c (i 1))], 7261, .v (.c (.snil)), [], 7571⟩
private theorem s12_k : h13.srp l4 s12 = true := by kernel_rfl
private noncomputable def h14 : HK := h13.srep _ s12 s12_k
private noncomputable def s13 : RE := ⟨86, [.v (.c (.ptr 12 0)), .v (.c (.ptr 381 0)), .v (.c (i 1))], 7573, .v (.c (.snil)), [], 7728⟩
private theorem s13_k : h14.srp l4 s13 = true := by kernel_rfl
private noncomputable def h15 : HK := h14.srep _ s13 s13_k
private noncomputable def s14 : RE := ⟨85, [.v (.c (.ptr 12 0)), .v (.c (.ptr 381 0)), .v (.c (i 2))], 7730, .v (.c (.snil)), [], 8022⟩
private theorem s14_k : h15.srp l4 s14 = true := by kernel_rfl
private noncomputable def h16 : HK := h15.srep _ s14 s14_k
private noncomputable def s15 : RE := ⟨86, [.v (.c (.ptr 12 0)), .v (.c (.ptr 381 0)), .v (.c (i 2))], 8024, .v (.c (.snil)), [], 8170⟩
private theorem s15_k : h16.srp l4 s15 = true := by kernel_rfl
private noncomputable def h17 : HK := h16.srep _ s15 s15_k
private noncomputable def s16 : RE := ⟨85, [.v (.c (.ptr 12 0)), .v (.c (.ptr 381 0)), .v (.c (i 3))], 8172, .v (.c (.snil)), [], 8446⟩
private theorem s16_k : h17.srp l4 s16 = true := by kernel_rfl
private noncomputable def h18 : HK := h17.srep _ s16 s16_k
private noncomputable def s17 : RE := ⟨86, [.v (.c (.ptr 12 0)), .v (.c (.ptr 381 0)), .v (.c (i 3))], 8448, .v (.c (.snil)), [], 8585⟩
private theorem s17_k : h18.srp l4 s17 = true := by kernel_rfl
private noncomputable def h19 : HK := h18.srep _ s17 s17_k
private noncomputable def s18 : RE := ⟨85, [.v (.c (.ptr 12 0)), .v (.c (.ptr 381 0)), .v (.c (i 4))], 8587, .v (.c (.snil)), [], 8843⟩
private theorem s18_k : h19.srp l4 s18 = true := by kernel_rfl
private noncomputable def h20 : HK := h19.srep _ s18 s18_k
private noncomputable def s19 : RE := ⟨86, [.v (.c (.ptr 12 0)), .v (.c (.ptr 381 0)), .v (.c (i 4))], 8845, .v (.c (.snil)), [], 8973⟩
private theorem s19_k : h20.srp l4 s19 = true := by kernel_rfl
private noncomputable def h21 : HK := h20.srep _ s19 s19_k
private noncomputable def s20 : RE := ⟨85, [.v (.c (.ptr 12 0)), .v (.c (.ptr 381 0)), .v (.c (i 5))], 8975, .v (.c (.snil)), [], 9213⟩
private theorem s20_k : h21.srp l4 s20 = true := by kernel_rfl
private noncomputable def h22 : HK := h21.srep _ s20 s20_k
private noncomputable def s21 : RE := ⟨86, [.v (.c (.ptr 12 0)), .v (.c (.ptr 381 0)), .v (.c (i 5))], 9215, .v (.c (.snil)), [], 9334⟩
private theorem s21_k : h22.srp l4 s21 = true := by kernel_rfl
private noncomputable def h23 : HK := h22.srep _ s21 s21_k
private noncomputable def s22 : RE := ⟨85, [.v (.c (.ptr 12 0)), .v (.c (.ptr 381 0)), .v (.c (i 6))], 9336, .v (.c (.snil)), [], 9556⟩
private theorem s22_k : h23.srp l4 s22 = true := by kernel_rfl
private noncomputable def h24 : HK := h23.srep _ s22 s22_k
private noncomputable def s23 : RE := ⟨86, [.v (.c (.ptr 12 0)), .v (.c (.ptr 381 0)), .v (.c (i 6))], 9558, .v (.c (.snil)), [], 9668⟩
private theorem s23_k : h24.srp l4 s23 = true := by kernel_rfl
private noncomputable def h25 : HK := h24.srep _ s23 s23_k
private noncomputable def s24 : RE := ⟨85, [.v (.c (.ptr 12 0)), .v (.c (.ptr 381 0)), .v (.c (i 7))], 9670, .v (.c (.snil)), [], 9872⟩
private theorem s24_k : h25.srp l4 s24 = true := by kernel_rfl
private noncomputable def h26 : HK := h25.srep _ s24 s24_k
private noncomputable def s25 : RE := ⟨86, [.v (.c (.ptr 12 0)), .v (.c (.ptr 381 0)), .v (.c (i 7))], 9874, .v (.c (.snil)), [], 9975⟩
private theorem s25_k : h26.srp l4 s25 = true := by kernel_rfl
private noncomputable def h27 : HK := h26.srep _ s25 s25_k
private noncomputable def s26 : RE := ⟨50, [.v (.c (.ptr 12 0)), .v (.c (.ptr 381 0))], 5418, .v (.c (.ptr 6739 0)), l5, 10477⟩
private theorem s26_k : h27.rep l4 s26 = true := by kernel_rfl
private noncomputable def h28 : HK := h27.repl _ s26 s26_k
theorem TopTaintCalls_6_f_run : isBool true (runW h28.K 4 [mi 10 6, ab false] s0) = true := by kernel_rfl
theorem TopTaintCalls_6_f_law {args : Array Value} (ha : VAs (fun _ => none) [mi 10 6, ab false] args.toList) (w : World) (hT : Tab w) :
    Calls Tryz.prog 4 args w fun e w' => Below w.heap.size w w' ∧ e = .returned (.bool true) := h28.law TopTaintCalls_6_f_run ha w hT
end Go.Proofs.YteajpblmbmncdaaGreatDoor
