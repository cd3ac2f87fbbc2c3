/- Tables of calls, and a run that uses them. -/
import Derived.Test.YteajpblmbmncdaaGreatDoorLn
namespace Go.Proofs.YteajpblmbmncdaaGreatDoor
open Go Go.RowKit Ev
set_option maxRecDepth 100000
set_option linter.unusedVariables false
private noncomputable abbrev i (n : Nat) : CV := .int .i64 (.ofNat n)
private noncomputable abbrev o (b a n : Nat) : CV := .slice b a n (.opn 0)
private noncomputable abbrev f (b a n : Nat) : CV := .slice b a n (.fix n)
private noncomputable abbrev e (k t : Nat) : Nat × BK := (k, ⟨[.snil], t, 0, none⟩)
private noncomputable abbrev l0 : Bls := [(1, ⟨[i 0, i 0, i 0, i 0, i 1, i 0], 69, 0, none⟩),
(2, ⟨[f 1 0 3], 47, 0, none⟩),
(4, ⟨[i 1, i 0], 69, 0, none⟩),
(5, ⟨[i 0, i 0], 69, 0, none⟩),
(7, ⟨[i 1, i 0], 69, 0, none⟩),
(9, ⟨[.snil, i 0, i 0, f 4 0 1, i 0, i 0, f 5 0 1, i 0, i 0, f 7 0 1, i 1, i 0], 72, 0, none⟩),
(10, ⟨[i 0], 3, 0, none⟩),
(11, ⟨[f 10 0 1], 74, 0, none⟩),
(12, ⟨[f 2 0 1, f 9 0 4, f 11 0 1, .snil, o 97 0 7, i 0], 57, 0, none⟩),
(19, ⟨[i 0, i 0, i 0, i 0], 69, 2, none⟩),
(20, ⟨[o 29 0 3, i 3, i 0, i 0, i 0], 46, 0, none⟩),
(25, ⟨[i 0], 3, 0, none⟩),
(29, ⟨[i 3, i 0, i 0, i 0, i 0, .snil, i 12, i 1, i 0, i 0, i 1, f 25 0 1, i 15, i 0, i 1, i 0, i 0, .snil], 29, 6, none⟩),
(34, ⟨[i 0, i 0, i 0, i 0], 69, 2, none⟩),
(35, ⟨[o 41 0 1, i 3, i 0, i 0, i 0], 46, 0, none⟩),
(38, ⟨[i 0], 3, 0, none⟩),
(41, ⟨[i 12, i 0, i 0, i 0, i 2, f 38 0 1], 29, 6, none⟩),
(46, ⟨[i 0, i 0, i 0, i 0], 69, 2, none⟩),
(47, ⟨[o 53 0 1, i 3, i 0, i 0, i 0], 46, 0, none⟩),
(50, ⟨[i 0], 3, 0, none⟩),
(53, ⟨[i 12, i 0, i 0, i 0, i 3, f 50 0 1], 29, 6, none⟩),
(58, ⟨[i 0, i 0, i 0, i 0], 69, 2, none⟩),
(59, ⟨[o 65 0 1, i 3, i 0, i 0, i 0], 46, 0, none⟩),
(62, ⟨[i 0], 3, 0, none⟩),
(65, ⟨[i 12, i 0, i 0, i 0, i 4, f 62 0 1], 29, 6, none⟩),
(70, ⟨[i 0, i 0, i 0, i 0], 69, 2, none⟩),
(71, ⟨[o 77 0 1, i 3, i 0, i 0, i 0], 46, 0, none⟩),
(74, ⟨[i 0], 3, 0, none⟩),
(77, ⟨[i 12, i 0, i 0, i 0, i 5, f 74 0 1], 29, 6, none⟩),
(82, ⟨[i 0, i 0, i 0, i 0], 69, 2, none⟩),
(83, ⟨[o 89 0 1, i 3, i 0, i 0, i 0], 46, 0, none⟩),
(86, ⟨[i 0], 3, 0, none⟩),
(89, ⟨[i 12, i 0, i 0, i 0, i 6, f 86 0 1], 29, 6, none⟩),
(94, ⟨[i 0, i 0, i 0, i 0], 69, 2, none⟩),
(95, ⟨[.snil, i 3, i 0, i 0, i 0], 46, 0, none⟩),
(97, ⟨[i 0, o 19 0 2, f 20 0 1, i 2, o 34 0 2, f 35 0 1, i 2, o 46 0 2, f 47 0 1, i 2, o 58 0 2, f 59 0 1, i 2, o 70 0 2, f 71 0 1, i 2, o 82 0 2, f 83 0 1, i 2, o 94 0 2, f 95 0 1], 50, 3, none⟩)]
private noncomputable abbrev l1 : Bls := [(12, ⟨[f 2 0 1, f 9 0 4, f 11 0 1, .snil, o 97 0 7, i 0], 57, 0, none⟩),
(20, ⟨[o 29 0 3, i 3, i 0, i 0, i 0], 46, 0, none⟩),
(35, ⟨[o 41 0 1, i 3, i 0, i 0, i 0], 46, 0, none⟩),
(47, ⟨[o 53 0 1, i 3, i 0, i 0, i 0], 46, 0, none⟩),
(59, ⟨[o 65 0 1, i 3, i 0, i 0, i 0], 46, 0, none⟩),
(71, ⟨[o 77 0 1, i 3, i 0, i 0, i 0], 46, 0, none⟩),
(83, ⟨[o 89 0 1, i 3, i 0, i 0, i 0], 46, 0, none⟩),
(95, ⟨[.snil, i 3, i 0, i 0, i 0], 46, 0, none⟩),
(97, ⟨[i 0, o 19 0 2, f 20 0 1, i 2, o 34 0 2, f 35 0 1, i 2, o 46 0 2, f 47 0 1, i 2, o 58 0 2, f 59 0 1, i 2, o 70 0 2, f 71 0 1, i 2, o 82 0 2, f 83 0 1, i 2, o 94 0 2, f 95 0 1], 50, 3, none⟩)]
private noncomputable abbrev l2 : Bls := [(99, ⟨[o 179 0 7, o 183 0 7, .snil, .snil, .snil, i 21], 230, 0, none⟩),
(105, ⟨[i 0, i 1], 3, 1, none⟩),
(117, ⟨[i 3, i 4], 3, 1, none⟩),
(129, ⟨[i 6, i 7], 3, 1, none⟩),
(141, ⟨[i 9, i 10], 3, 1, none⟩),
(153, ⟨[i 12, i 13], 3, 1, none⟩),
(165, ⟨[i 15, i 16], 3, 1, none⟩),
(177, ⟨[i 18, i 19], 3, 1, none⟩),
(179, ⟨[o 105 0 2, o 117 0 2, o 129 0 2, o 141 0 2, o 153 0 2, o 165 0 2, o 177 0 2], 27, 1, none⟩),
(183, ⟨[i 2, i 5, i 8, i 11, i 14, i 17, i 20], 3, 1, none⟩)]
private noncomputable abbrev l3 : Bls := [(99, ⟨[o 179 0 7, o 183 0 7, .snil, .snil, .snil, i 21], 230, 0, none⟩),
(105, ⟨[i 0, i 1], 3, 1, none⟩),
(117, ⟨[i 3, i 4], 3, 1, none⟩),
(129, ⟨[i 6, i 7], 3, 1, none⟩),
(141, ⟨[i 9, i 10], 3, 1, none⟩),
(153, ⟨[i 12, i 13], 3, 1, none⟩),
(165, ⟨[i 15, i 16], 3, 1, none⟩),
(177, ⟨[i 18, i 19], 3, 1, none⟩),
(179, ⟨[o 105 0 2, o 117 0 2, o 129 0 2, o 141 0 2, o 153 0 2, o 165 0 2, o 177 0 2], 27, 1, none⟩),
(183, ⟨[i 2, i 5, i 8, i 11, i 14, i 17, i 20], 3, 1, none⟩),
(289, ⟨[o 331 0 21], 233, 0, none⟩),
(331, ⟨[i 0, i 1, i 2, i 3, i 4, i 5, i 6, i 7, i 8, i 9, i 10, i 11, i 12, i 13, i 14, i 15, i 16, i 17, i 18, i 19, i 20], 3, 1, none⟩),
(332, ⟨[.snil, .snil, .snil, .snil, .snil, .snil, .snil, .snil, .snil, .snil, .snil, .snil, .snil, .snil, .snil, .snil, .snil, .snil, .snil, .snil, .snil], 238, 0, none⟩),
(333, ⟨[o 528 0 1], 139, 0, none⟩),
(334, ⟨[], 0, 0, some (.map [(0, .agg [i 1, i 1], .c (.bool true)), (1, .agg [i 4, i 2], .c (.bool true)), (2, .agg [i 6, i 3], .c (.bool true)), (3, .agg [i 8, i 4], .c (.bool true)), (4, .agg [i 10, i 5], .c (.bool true)), (5, .agg [i 12, i 6], .c (.bool true))] 6)⟩),
(335, ⟨[], 0, 0, some (.map [] 0)⟩),
(336, ⟨[.snil, .snil, .map 335, i 0], 237, 0, none⟩),
(337, ⟨[.ptr 12 0, .ptr 99 0, .ptr 289 0, o 520 0 21, o 523 0 21, o 526 0 21, f 332 0 21, .ptr 333 0, .map 334, .ptr 336 0], 145, 0, none⟩),
e 338 139,
e 341 139,
e 344 139,
e 347 139,
e 350 139,
e 353 139,
e 356 139,
e 359 139,
e 362 139,
e 365 139,
e 368 139,
e 371 139,
e 374 139,
e 377 139,
e 380 139,
e 383 139,
e 386 139,
e 389 139,
e 392 139,
e 395 139,
e 398 139,
e 401 139,
e 404 139,
e 407 139,
e 410 139,
e 413 139,
e 416 139,
e 419 139,
e 422 139,
e 425 139,
e 428 139,
e 431 139,
e 434 139,
e 437 139,
e 440 139,
e 443 139,
e 446 139,
e 449 139,
e 452 139,
e 455 139,
e 458 139,
e 461 139,
e 464 139,
e 467 139,
e 470 139,
e 473 139,
e 476 139,
e 479 139,
e 482 139,
e 485 139,
e 488 139,
e 491 139,
e 494 139,
e 497 139,
e 500 139,
e 503 139,
e 506 139,
e 509 139,
e 512 139,
e 515 139,
e 518 139,
(520, ⟨[.ptr 338 0, .ptr 347 0, .ptr 356 0, .ptr 365 0, .ptr 374 0, .ptr 383 0, .ptr 392 0, .ptr 401 0, .ptr 410 0, .ptr 419 0, .ptr 428 0, .ptr 437 0, .ptr 446 0, .ptr 455 0, .ptr 464 0, .ptr 473 0, .ptr 482 0, .ptr 491 0, .ptr 500 0, .ptr 509 0, .ptr 518 0], 136, 1, none⟩),
e 521 139,
(523, ⟨[.ptr 341 0, .ptr 350 0, .ptr 359 0, .ptr 368 0, .ptr 377 0, .ptr 386 0, .ptr 395 0, .ptr 404 0, .ptr 413 0, .ptr 422 0, .ptr 431 0, .ptr 440 0, .ptr 449 0, .ptr 458 0, .ptr 467 0, .ptr 476 0, .ptr 485 0, .ptr 494 0, .ptr 503 0, .ptr 512 0, .ptr 521 0], 136, 1, none⟩),
e 524 139,
(526, ⟨[.ptr 344 0, .ptr 353 0, .ptr 362 0, .ptr 371 0, .ptr 380 0, .ptr 389 0, .ptr 398 0, .ptr 407 0, .ptr 416 0, .ptr 425 0, .ptr 434 0, .ptr 443 0, .ptr 452 0, .ptr 461 0, .ptr 470 0, .ptr 479 0, .ptr 488 0, .ptr 497 0, .ptr 506 0, .ptr 515 0, .ptr 524 0], 136, 1, none⟩),
(528, ⟨[.int .u64 (.ofNat 127)], 224, 1, none⟩)]
private noncomputable abbrev l4 : Bls := [(1, ⟨[i 0, i 0, i 0, i 0, i 1, i 0], 69, 0, none⟩),
(2, ⟨[f 1 0 3], 47, 0, none⟩),
(4, ⟨[i 1, i 0], 69, 0, none⟩),
(5, ⟨[i 0, i 0], 69, 0, none⟩),
(7, ⟨[i 1, i 0], 69, 0, none⟩),
(9, ⟨[.snil, i 0, i 0, f 4 0 1, i 0, i 0, f 5 0 1, i 0, i 0, f 7 0 1, i 1, i 0], 72, 0, none⟩),
(10, ⟨[i 0], 3, 0, none⟩),
(11, ⟨[f 10 0 1], 74, 0, none⟩),
(12, ⟨[f 2 0 1, f 9 0 4, f 11 0 1, .snil, o 97 0 7, i 0], 57, 0, none⟩),
(19, ⟨[i 0, i 0, i 0, i 0], 69, 2, none⟩),
(20, ⟨[o 29 0 3, i 3, i 0, i 0, i 0], 46, 0, none⟩),
(25, ⟨[i 0], 3, 0, none⟩),
(29, ⟨[i 3, i 0, i 0, i 0, i 0, .snil, i 12, i 1, i 0, i 0, i 1, f 25 0 1, i 15, i 0, i 1, i 0, i 0, .snil], 29, 6, none⟩),
(34, ⟨[i 0, i 0, i 0, i 0], 69, 2, none⟩),
(35, ⟨[o 41 0 1, i 3, i 0, i 0, i 0], 46, 0, none⟩),
(38, ⟨[i 0], 3, 0, none⟩),
(41, ⟨[i 12, i 0, i 0, i 0, i 2, f 38 0 1], 29, 6, none⟩),
(46, ⟨[i 0, i 0, i 0, i 0], 69, 2, none⟩),
(47, ⟨[o 53 0 1, i 3, i 0, i 0, i 0], 46, 0, none⟩),
(50, ⟨[i 0], 3, 0, none⟩),
(53, ⟨[i 12, i 0, i 0, i 0, i 3, f 50 0 1], 29, 6, none⟩),
(58, ⟨[i 0, i 0, i 0, i 0], 69, 2, none⟩),
(59, ⟨[o 65 0 1, i 3, i 0, i 0, i 0], 46, 0, none⟩),
(62, ⟨[i 0], 3, 0, none⟩),
(65, ⟨[i 12, i 0, i 0, i 0, i 4, f 62 0 1], 29, 6, none⟩),
(70, ⟨[i 0, i 0, i 0, i 0], 69, 2, none⟩),
(71, ⟨[o 77 0 1, i 3, i 0, i 0, i 0], 46, 0, none⟩),
(74, ⟨[i 0], 3, 0, none⟩),
(77, ⟨[i 12, i 0, i 0, i 0, i 5, f 74 0 1], 29, 6, none⟩),
(82, ⟨[i 0, i 0, i 0, i 0], 69, 2, none⟩),
(83, ⟨[o 89 0 1, i 3, i 0, i 0, i 0], 46, 0, none⟩),
(86, ⟨[i 0], 3, 0, none⟩),
(89, ⟨[i 12, i 0, i 0, i 0, i 6, f 86 0 1], 29, 6, none⟩),
(94, ⟨[i 0, i 0, i 0, i 0], 69, 2, none⟩),
(95, ⟨[.snil, i 3, i 0, i 0, i 0], 46, 0, none⟩),
(97, ⟨[i 0, o 19 0 2, f 20 0 1, i 2, o 34 0 2, f 35 0 1, i 2, o 46 0 2, f 47 0 1, i 2, o 58 0 2, f 59 0 1, i 2, o 70 0 2, f 71 0 1, i 2, o 82 0 2, f 83 0 1, i 2, o 94 0 2, f 95 0 1], 50, 3, none⟩),
(99, ⟨[o 179 0 7, o 183 0 7, .snil, .snil, .snil, i 21], 230, 0, none⟩),
(105, ⟨[i 0, i 1], 3, 1, none⟩),
(117, ⟨[i 3, i 4], 3, 1, none⟩),
(129, ⟨[i 6, i 7], 3, 1, none⟩),
(141, ⟨[i 9, i 10], 3, 1, none⟩),
(153, ⟨[i 12, i 13], 3, 1, none⟩),
(165, ⟨[i 15, i 16], 3, 1, none⟩),
(177, ⟨[i 18, i 19], 3, 1, none⟩),
(179, ⟨[o 105 0 2, o 117 0 2, o 129 0 2, o 141 0 2, o 153 0 2, o 165 0 2, o 177 0 2], 27, 1, none⟩),
(183, ⟨[i 2, i 5, i 8, i 11, i 14, i 17, i 20], 3, 1, none⟩),
(289, ⟨[o 331 0 21], 233, 0, none⟩),
(331, ⟨[i 0, i 1, i 2, i 3, i 4, i 5, i 6, i 7, i 8, i 9, i 10, i 11, i 12, i 13, i 14, i 15, i 16, i 17, i 18, i 19, i 20], 3, 1, none⟩),
(332, ⟨[.snil, .snil, .snil, .snil, .snil, .snil, .snil, .snil, .snil, .snil, .snil, .snil, .snil, .snil, .snil, .snil, .snil, .snil, .snil, .snil, .snil], 238, 0, none⟩),
(333, ⟨[o 528 0 1], 139, 0, none⟩),
(334, ⟨[], 0, 0, some (.map [(0, .agg [i 1, i 1], .c (.bool true)), (1, .agg [i 4, i 2], .c (.bool true)), (2, .agg [i 6, i 3], .c (.bool true)), (3, .agg [i 8, i 4], .c (.bool true)), (4, .agg [i 10, i 5], .c (.bool true)), (5, .agg [i 12, i 6], .c (.bool true))] 6)⟩),
(335, ⟨[], 0, 0, some (.map [] 0)⟩),
(336, ⟨[.snil, .snil, .map 335, i 0], 237, 0, none⟩),
(337, ⟨[.ptr 12 0, .ptr 99 0, .ptr 289 0, o 520 0 21, o 523 0 21, o 526 0 21, f 332 0 21, .ptr 333 0, .map 334, .ptr 336 0], 145, 0, none⟩),
e 338 139,
e 341 139,
e 344 139,
e 347 139,
e 350 139,
e 353 139,
e 356 139,
e 359 139,
e 362 139,
e 365 139,
e 368 139,
e 371 139,
e 374 139,
e 377 139,
e 380 139,
e 383 139,
e 386 139,
e 389 139,
e 392 139,
e 395 139,
e 398 139,
e 401 139,
e 404 139,
e 407 139,
e 410 139,
e 413 139,
e 416 139,
e 419 139,
e 422 139,
e 425 139,
e 428 139,
e 431 139,
e 434 139,
e 437 139,
e 440 139,
e 443 139,
e 446 139,
e 449 139,
e 452 139,
e 455 139,
e 458 139,
e 461 139,
e 464 139,
e 467 139,
e 470 139,
e 473 139,
e 476 139,
e 479 139,
e 482 139,
e 485 139,
e 488 139,
e 491 139,
e 494 139,
e 497 139,
e 500 139,
e 503 139,
e 506 139,
e 509 139,
e 512 139,
e 515 139,
e 518 139,
(520, ⟨[.ptr 338 0, .ptr 347 0, .ptr 356 0, .ptr 365 0, .ptr 374 0, .ptr 383 0, .ptr 392 0, .ptr 401 0, .ptr 410 0, .ptr 419 0, .ptr 428 0, .ptr 437 0, .ptr 446 0, .ptr 455 0, .ptr 464 0, .ptr 473 0, .ptr 482 0, .ptr 491 0, .ptr 500 0, .ptr 509 0, .ptr 518 0], 136, 1, none⟩),
e 521 139,
(523, ⟨[.ptr 341 0, .ptr 350 0, .ptr 359 0, .ptr 368 0, .ptr 377 0, .ptr 386 0, .ptr 395 0, .ptr 404 0, .ptr 413 0, .ptr 422 0, .ptr 431 0, .ptr 440 0, .ptr 449 0, .ptr 458 0, .ptr 467 0, .ptr 476 0, .ptr 485 0, .ptr 494 0, .ptr 503 0, .ptr 512 0, .ptr 521 0], 136, 1, none⟩),
e 524 139,
(526, ⟨[.ptr 344 0, .ptr 353 0, .ptr 362 0, .ptr 371 0, .ptr 380 0, .ptr 389 0, .ptr 398 0, .ptr 407 0, .ptr 416 0, .ptr 425 0, .ptr 434 0, .ptr 443 0, .ptr 452 0, .ptr 461 0, .ptr 470 0, .ptr 479 0, .ptr 488 0, .ptr 497 0, .ptr 506 0, .ptr 515 0, .ptr 524 0], 136, 1, none⟩),
(528, ⟨[.int .u64 (.ofNat 127)], 224, 1, none⟩)]
private noncomputable abbrev l5 : Bls := [(5287, ⟨[], 0, 0, some (.map [(0, .agg [i 1, i 0, i 0, i 0, i 0], .c (o 7942 0 2)), (1, .agg [i 5, i 1, i 0, i 0, i 0], .c (o 7896 0 1)), (2, .agg [i 2, i 1, i 0, i 0, i 0], .c (o 7970 0 1)), (3, .agg [i 5, i 2, i 0, i 0, i 0], .c (o 7975 0 1)), (4, .agg [i 1, i 4, i 0, i 0, i 0], .c (o 8000 0 1)), (5, .agg [i 2, i 2, i 0, i 0, i 0], .c (o 8028 0 1)), (6, .agg [i 5, i 3, i 0, i 0, i 0], .c (o 8033 0 1)), (7, .agg [i 1, i 6, i 0, i 0, i 0], .c (o 8058 0 1)), (8, .agg [i 2, i 3, i 0, i 0, i 0], .c (o 8086 0 1)), (9, .agg [i 5, i 4, i 0, i 0, i 0], .c (o 8091 0 1)), (10, .agg [i 1, i 8, i 0, i 0, i 0], .c (o 8116 0 1)), (11, .agg [i 2, i 4, i 0, i 0, i 0], .c (o 8144 0 1)), (12, .agg [i 5, i 5, i 0, i 0, i 0], .c (o 8149 0 1)), (13, .agg [i 1, i 10, i 0, i 0, i 0], .c (o 8174 0 1)), (14, .agg [i 2, i 5, i 0, i 0, i 0], .c (o 8202 0 1)), (15, .agg [i 5, i 6, i 0, i 0, i 0], .c (o 8207 0 1)), (16, .agg [i 1, i 12, i 0, i 0, i 0], .c (o 8232 0 1)), (17, .agg [i 2, i 6, i 0, i 0, i 0], .c (o 8249 0 1))] 18)⟩),
(5288, ⟨[.map 5287, .md 1 (.ofNat 0) true], 155, 0, none⟩),
(7896, ⟨[i 1, i 1, i 0, i 0, i 0], 116, 5, none⟩),
(7942, ⟨[i 2, i 1, i 0, i 0, i 0, i 5, i 0, i 0, i 0, i 0], 116, 5, none⟩),
(7970, ⟨[i 2, i 2, i 0, i 0, i 0], 116, 5, none⟩),
(7975, ⟨[i 1, i 4, i 0, i 0, i 0], 116, 5, none⟩),
(8000, ⟨[i 5, i 1, i 0, i 0, i 0], 116, 5, none⟩),
(8028, ⟨[i 2, i 3, i 0, i 0, i 0], 116, 5, none⟩),
(8033, ⟨[i 1, i 6, i 0, i 0, i 0], 116, 5, none⟩),
(8058, ⟨[i 5, i 2, i 0, i 0, i 0], 116, 5, none⟩),
(8086, ⟨[i 2, i 4, i 0, i 0, i 0], 116, 5, none⟩),
(8091, ⟨[i 1, i 8, i 0, i 0, i 0], 116, 5, none⟩),
(8116, ⟨[i 5, i 3, i 0, i 0, i 0], 116, 5, none⟩),
(8144, ⟨[i 2, i 5, i 0, i 0, i 0], 116, 5, none⟩),
(8149, ⟨[i 1, i 10, i 0, i 0, i 0], 116, 5, none⟩),
(8174, ⟨[i 5, i 4, i 0, i 0, i 0], 116, 5, none⟩),
(8202, ⟨[i 2, i 6, i 0, i 0, i 0], 116, 5, none⟩),
(8207, ⟨[i 1, i 12, i 0, i 0, i 0], 116, 5, none⟩),
(8232, ⟨[i 5, i 5, i 0, i 0, i 0], 116, 5, none⟩),
(8249, ⟨[i 5, i 6, i 0, i 0, i 0], 116, 5, none⟩)]
private noncomputable def m0 : MM := ⟨[48], l0, 99, [⟨48, 0, [.v (.c (.ptr 12 0))], .v (.c (.nili))⟩]⟩
private theorem m0_k : H0.tbl m0 = true := by kernel_rfl
private noncomputable def h1 : HK := H0.memo m0 m0_k
private noncomputable def m1 : MM := ⟨[155], l1, 216, [⟨155, 0, [.v (.c (.ptr 12 0)), .v (.c (i 0))], .tup [.agg [i 0, i 0, i 0], .c (.bool true)]⟩,
⟨155, 1, [.v (.c (.ptr 12 0)), .v (.c (i 1))], .tup [.agg [i 0, i 0, i 1], .c (.bool true)]⟩,
⟨155, 2, [.v (.c (.ptr 12 0)), .v (.c (i 2))], .tup [.agg [i 0, i 0, i 2], .c (.bool true)]⟩,
⟨155, 3, [.v (.c (.ptr 12 0)), .v (.c (i 3))], .tup [.agg [i 0, i 0, i 3], .c (.bool true)]⟩,
⟨155, 4, [.v (.c (.ptr 12 0)), .v (.c (i 4))], .tup [.agg [i 1, i 0, i 0], .c (.bool true)]⟩,
⟨155, 5, [.v (.c (.ptr 12 0)), .v (.c (i 5))], .tup [.agg [i 1, i 0, i 1], .c (.bool true)]⟩,
⟨155, 6, [.v (.c (.ptr 12 0)), .v (.c (i 6))], .tup [.agg [i 2, i 0, i 0], .c (.bool true)]⟩,
⟨155, 7, [.v (.c (.ptr 12 0)), .v (.c (i 7))], .tup [.agg [i 2, i 0, i 1], .c (.bool true)]⟩,
⟨155, 8, [.v (.c (.ptr 12 0)), .v (.c (i 8))], .tup [.agg [i 3, i 0, i 0], .c (.bool true)]⟩,
⟨155, 9, [.v (.c (.ptr 12 0)), .v (.c (i 9))], .tup [.agg [i 3, i 0, i 1], .c (.bool true)]⟩,
⟨155, 10, [.v (.c (.ptr 12 0)), .v (.c (i 10))], .tup [.agg [i 4, i 0, i 0], .c (.bool true)]⟩,
⟨155, 11, [.v (.c (.ptr 12 0)), .v (.c (i 11))], .tup [.agg [i 4, i 0, i 1], .c (.bool true)]⟩,
⟨155, 12, [.v (.c (.ptr 12 0)), .v (.c (i 12))], .tup [.agg [i 5, i 0, i 0], .c (.bool true)]⟩,
⟨155, 13, [.v (.c (.ptr 12 0)), .v (.c (i 13))], .tup [.agg [i 5, i 0, i 1], .c (.bool true)]⟩,
⟨155, 14, [.v (.c (.ptr 12 0)), .v (.c (i 14))], .tup [.agg [i 6, i 0, i 0], .c (.bool true)]⟩]⟩
private theorem m1_k : h1.tbl m1 = true := by kernel_rfl
private noncomputable def h2 : HK := h1.memo m1 m1_k
private noncomputable def s1 : RE := ⟨76, [.v (.c (.ptr 12 0))], 99, .v (.c (.ptr 99 0)), l2, 289⟩
private theorem s1_k : h2.srp l0 s1 = true := by kernel_rfl
private noncomputable def h3 : HK := h2.srep _ s1 s1_k
private noncomputable def s2 : RE := ⟨49, [.v (.c (.ptr 12 0)), .v (.c (.snil))], 99, .v (.c (.ptr 337 0)), l3, 4239⟩
private theorem s2_k : h3.rep l0 s2 = true := by kernel_rfl
private noncomputable def h4 : HK := h3.repl _ s2 s2_k
private noncomputable def s3 : RE := ⟨151, [.v (.c (.ptr 12 0)), .v (.c (.ptr 337 0)), .v (.c (i 1))], 4403, .v (.c (.snil)), [], 4553⟩
private theorem s3_k : h4.srp l4 s3 = true := by kernel_rfl
private noncomputable def h5 : HK := h4.srep _ s3 s3_k
private noncomputable def s4 : RE := ⟨151, [.v (.c (.ptr 12 0)), .v (.c (.ptr 337 0)), .v (.c (i 4))], 4582, .v (.c (.snil)), [], 4723⟩
private theorem s4_k : h5.srp l4 s4 = true := by kernel_rfl
private noncomputable def h6 : HK := h5.srep _ s4 s4_k
private noncomputable def s5 : RE := ⟨151, [.v (.c (.ptr 12 0)), .v (.c (.ptr 337 0)), .v (.c (i 6))], 4739, .v (.c (.snil)), [], 4871⟩
private theorem s5_k : h6.srp l4 s5 = true := by kernel_rfl
private noncomputable def h7 : HK := h6.srep _ s5 s5_k
private noncomputable def s6 : RE := ⟨151, [.v (.c (.ptr 12 0)), .v (.c (.ptr 337 0)), .v (.c (i 8))], 4887, .v (.c (.snil)), [], 5010⟩
private theorem s6_k : h7.srp l4 s6 = true := by kernel_rfl
private noncomputable def h8 : HK := h7.srep _ s6 s6_k
private noncomputable def s7 : RE := ⟨151, [.v (.c (.ptr 12 0)), .v (.c (.ptr 337 0)), .v (.c (i 10))], 5026, .v (.c (.snil)), [], 5140⟩
private theorem s7_k : h8.srp l4 s7 = true := by kernel_rfl
private noncomputable def h9 : HK := h8.srep _ s7 s7_k
private noncomputable def s8 : RE := ⟨151, [.v (.c (.ptr 12 0)), .v (.c (.ptr 337 0)), .v (.c (i 12))], 5156, .v (.c (.snil)), [], 5261⟩
private theorem s8_k : h9.srp l4 s8 = true := by kernel_rfl
private noncomputable def h10 : HK := h9.srep _ s8 s8_k
private noncomputable def s9 : RE := ⟨85, [.v (.c (.ptr 12 0)), .v (.c (.ptr 337 0)), .v (.c (i 0))], 5290, .v (.c (.snil)), [], 5596⟩
private theorem s9_k : h10.srp l4 s9 = true := by kernel_rfl
private noncomputable def h11 : HK := h10.srep _ s9 s9_k
private noncomputable def s10 : RE := ⟨86, [.v (.c (.ptr 12 0)), .v (.c (.ptr 337 0)), .v (.c (i 0))], 5598, .v (.c (.snil)), [], 5751⟩
private theorem s10_k : h11.srp l4 s10 = true := by kernel_rfl
private noncomputable def h12 : HK := h11.srep _ s10 s10_k
private noncomputable def s11 : RE := ⟨85, [.v (.c (.ptr 12 0)), .v (.c (.ptr 337 0)), .v (.c (i 1))], 5753, .v (.c (.snil)), [], 6025⟩
private theorem s11_k : h12.srp l4 s11 = true := by kernel_rfl
private noncomputable def h13 : HK := h12.srep _ s11 s11_k
private noncomputable def s12 : RE := ⟨86, [.v (.c (.ptr 12 0)), .v (.c (.ptr 337 0)), .v (.c (i 1))], 6027, .v (.c (.snil)), [], 6163⟩
private theorem s12_k : h13.srp l4 s12 = true := by kernel_rfl
private noncomputable def h14 : HK := h13.srep _ s12 s12_k
private noncomputable def s13 : RE := ⟨85, [.v (.c (.ptr 12 0)), .v (.c (.ptr 337 0)), .v (.c (i 2))], 6165, .v (.c (.snil)), [], 6419⟩
private theorem s13_k : h14.srp l4 s13 = true := by kernel_rfl
private noncomputable def h15 : HK := h14.srep _ s13 s13_k
private noncomputable def s14 : RE := ⟨86, [.v (.c (.ptr 12 0)), .v (.c (.ptr 337 0)), .v (.c (i 2))], 6421, .v (.c (.snil)), [], 6548⟩
private theorem s14_k : h15.srp l4 s14 = true := by kernel_rfl
private noncomputable def h16 : HK := h15.srep _ s14 s14_k
private noncomputable def s15 : RE := ⟨85, [.v (.c (.ptr 12 0)), .v (.c (.ptr 337 0)), .v (.c (i 3))], 6550, .v (.c (.snil)), [], 6786⟩
private theorem s15_k : h16.srp l4 s15 = true := by kernel_rfl
private noncomputable def h17 : HK := h16.srep _ s15 s15_k
private noncomputable def s16 : RE := ⟨86, [.v (.c (.ptr 12 0)), .v (.c (.ptr 337 0)), .v (.c (i 3))], 6788, .v (.c (.snil)), [], 6906⟩
private theorem s16_k : h17.srp l4 s16 = true := by kernel_rfl
private noncomputable def h18 : HK := h17.srep _ s16 s16_k
private noncomputable def s17 : RE := ⟨85, [.v (.c (.ptr 12 0)), .v (.c (.ptr 337 0)), .v (.c (i 4))], 6908, .v (.c (.snil)), [], 7126⟩
private theorem s17_k : h18.srp l4 s17 = true := by kernel_rfl
private noncomputable def h19 : HK := h18.srep _ s17 s17_k
private noncomputable def s18 : RE := ⟨86, [.v (.c (.ptr 12 0)), .v (.c (.ptr 337 0)), .v (.c (i 4))], 7128, .v (.c (.snil)), [], 7237⟩
private theorem s18_k : h19.srp l4 s18 = true := by kernel_rfl
private noncomputable def h20 : HK := h19.srep _ s18 s18_k
private noncomputable def s19 : RE := ⟨85, [.v (.c (.ptr 12 0)), .v (.c (.ptr 337 0)), .v (.c (i 5))], 7239, .v (.c (.snil)), [], 7439⟩
private theorem s19_k : h20.srp l4 s19 = true := by kernel_rfl
private noncomputable def h21 : HK := h20.srep _ s19 s19_k
private noncomputable def s20 : RE := ⟨86, [.v (.c (.ptr 12 0)), .v (.c (.ptr 337 0)), .v (.c (i 5))], 7441, .v (.c (.snil)), [], 7541⟩
private theorem s20_k : h21.srp l4 s20 = true := by kernel_rfl
private noncomputable def h22 : HK := h21.srep _ s20 s20_k
private noncomputable def s21 : RE := ⟨85, [.v (.c (.ptr 12 0)), .v (.c (.ptr 337 0)), .v (.c (i 6))], 7543, .v (.c (.snil)), [], 7725⟩
private theorem s21_k : h22.srp l4 s21 = true := by kernel_rfl
private noncomputable def h23 : HK := h22.srep _ s21 s21_k
private noncomputable def s22 : RE := ⟨86, [.v (.c (.ptr 12 0)), .v (.c (.ptr 337 0)), .v (.c (i 6))], 7727, .v (.c (.snil)), [], 7818⟩
private theorem s22_k : h23.srp l4 s22 = true := by kernel_rfl
private noncomputable def h24 : HK := h23.srep _ s22 s22_k
private noncomputable def s23 : RE := ⟨50, [.v (.c (.ptr 12 0)), .v (.c (.ptr 337 0))], 4239, .v (.c (.ptr 5288 0)), l5, 8251⟩
private theorem s23_k : h24.rep l4 s23 = true := by kernel_rfl
private noncomputable def h25 : HK := h24.repl _ s23 s23_k
theorem TopTaintCalls_5_f_run : isBool true (runW h25.K 4 [mi 10 5, ab false] s0) = true := by kernel_rfl
theorem TopTaintCalls_5_f_law {args : Array Value} (ha : VAs (fun _ => none) [mi 10 5, ab false] args.toList) (w : World) (hT : Tab w) :
    Calls Tryz.prog 4 args w fun e w' => Below w.heap.size w w' ∧ e = .returned (.bool true) := h25.law TopTaintCalls_5_f_run ha w hT
end Go.Proofs.YteajpblmbmncdaaGreatDoor
