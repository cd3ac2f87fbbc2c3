/- Tables of calls, and a run that uses them. -/
import Derived.Test.YteajpblmbmncdaaGreatDoorLn
namespace Go.Proofs.YteajpblmbmncdaaGreatDoor
open Go Go.RowKit Ev
set_option maxRecDepth 100000
set_option linter.unusedVariables false
private noncomputable abbrev i (n : Nat) : CV := .int .i64 (.ofNat n)
private noncomputable abbrev o (b a n : Nat) : CV := .slice b a n (.opn 0)
private noncomputable abbrev f (b a n : Nat) : CV := .slice b a n (.fix n)
private noncomputable abbrev e (k t : Nat) : Nat × BK := (k, ⟨[.snil], t, 0, none⟩)
private noncomputable abbrev l0 : Bls := [(1, ⟨[i 0, i 0, i 0, i 0, i 1, i 0], 69, 0, none⟩),
(2, ⟨[f 1 0 3], 47, 0, none⟩),
(4, ⟨[i 1, i 0], 69, 0, none⟩),
(5, ⟨[i 0, i 0], 69, 0, none⟩),
(7, ⟨[i 1, i 0], 69, 0, none⟩),
(9, ⟨[.snil, i 0, i 0, f 4 0 1, i 0, i 0, f 5 0 1, i 0, i 0, f 7 0 1, i 1, i 0], 72, 0, none⟩),
(10, ⟨[i 0], 3, 0, none⟩),
(11, ⟨[f 10 0 1], 74, 0, none⟩),
(12, ⟨[f 2 0 1, f 9 0 4, f 11 0 1, .snil, o 86 0 6, i 0], 57, 0, none⟩),
(20, ⟨[i 0, i 0, i 1, i 0], 69, 2, none⟩),
(21, ⟨[o 30 0 3, i 3, i 0, i 0, i 0], 46, 0, none⟩),
(27, ⟨[i 1], 3, 0, none⟩),
(30, ⟨[i 1, i 0, i 0, i 0, i 1, .snil, i 5, i 1, i 0, i 0, i 0, .snil, i 12, i 0, i 0, i 0, i 1, f 27 0 1], 29, 6, none⟩),
(35, ⟨[i 1, i 0, i 0, i 0], 69, 2, none⟩),
(36, ⟨[o 42 0 1, i 3, i 1, i 0, i 0], 46, 0, none⟩),
(39, ⟨[i 0], 3, 0, none⟩),
(42, ⟨[i 12, i 1, i 0, i 0, i 2, f 39 0 1], 29, 6, none⟩),
(47, ⟨[i 1, i 0, i 0, i 0], 69, 2, none⟩),
(48, ⟨[o 54 0 1, i 3, i 1, i 0, i 0], 46, 0, none⟩),
(51, ⟨[i 0], 3, 0, none⟩),
(54, ⟨[i 12, i 1, i 0, i 0, i 3, f 51 0 1], 29, 6, none⟩),
(59, ⟨[i 1, i 0, i 0, i 0], 69, 2, none⟩),
(60, ⟨[o 66 0 1, i 3, i 1, i 0, i 0], 46, 0, none⟩),
(63, ⟨[i 0], 3, 0, none⟩),
(66, ⟨[i 12, i 1, i 0, i 0, i 4, f 63 0 1], 29, 6, none⟩),
(71, ⟨[i 1, i 0, i 0, i 0], 69, 2, none⟩),
(72, ⟨[o 78 0 1, i 3, i 1, i 0, i 0], 46, 0, none⟩),
(75, ⟨[i 0], 3, 0, none⟩),
(78, ⟨[i 12, i 1, i 0, i 0, i 5, f 75 0 1], 29, 6, none⟩),
(83, ⟨[i 1, i 0, i 0, i 0], 69, 2, none⟩),
(84, ⟨[o 89 0 1, i 3, i 1, i 0, i 0], 46, 0, none⟩),
(86, ⟨[i 0, o 20 0 2, f 21 0 1, i 1, o 35 0 2, f 36 0 1, i 1, o 47 0 2, f 48 0 1, i 1, o 59 0 2, f 60 0 1, i 1, o 71 0 2, f 72 0 1, i 1, o 83 0 2, f 84 0 1], 50, 3, none⟩),
(89, ⟨[i 7, i 1, i 0, i 0, i 0, .snil], 29, 6, none⟩)]
private noncomputable abbrev l1 : Bls := [(12, ⟨[f 2 0 1, f 9 0 4, f 11 0 1, .snil, o 86 0 6, i 0], 57, 0, none⟩),
(21, ⟨[o 30 0 3, i 3, i 0, i 0, i 0], 46, 0, none⟩),
(36, ⟨[o 42 0 1, i 3, i 1, i 0, i 0], 46, 0, none⟩),
(48, ⟨[o 54 0 1, i 3, i 1, i 0, i 0], 46, 0, none⟩),
(60, ⟨[o 66 0 1, i 3, i 1, i 0, i 0], 46, 0, none⟩),
(72, ⟨[o 78 0 1, i 3, i 1, i 0, i 0], 46, 0, none⟩),
(84, ⟨[o 89 0 1, i 3, i 1, i 0, i 0], 46, 0, none⟩),
(86, ⟨[i 0, o 20 0 2, f 21 0 1, i 1, o 35 0 2, f 36 0 1, i 1, o 47 0 2, f 48 0 1, i 1, o 59 0 2, f 60 0 1, i 1, o 71 0 2, f 72 0 1, i 1, o 83 0 2, f 84 0 1], 50, 3, none⟩)]
private noncomputable abbrev l2 : Bls := [(90, ⟨[o 158 0 6, o 162 0 6, o 213 0 1, o 202 0 1, o 204 0 1, i 21], 230, 0, none⟩),
(96, ⟨[i 0, i 1], 3, 1, none⟩),
(108, ⟨[i 3, i 4], 3, 1, none⟩),
(120, ⟨[i 6, i 7], 3, 1, none⟩),
(132, ⟨[i 9, i 10], 3, 1, none⟩),
(144, ⟨[i 12, i 13], 3, 1, none⟩),
(156, ⟨[i 15, i 16], 3, 1, none⟩),
(158, ⟨[o 96 0 2, o 108 0 2, o 120 0 2, o 132 0 2, o 144 0 2, o 156 0 2], 27, 1, none⟩),
(162, ⟨[i 2, i 5, i 8, i 11, i 14, i 17], 3, 1, none⟩),
(202, ⟨[i 1], 3, 1, none⟩),
(204, ⟨[i 0], 3, 1, none⟩),
(211, ⟨[i 18, i 19, i 20], 3, 1, none⟩),
(213, ⟨[o 211 0 3], 27, 1, none⟩)]
private noncomputable abbrev l3 : Bls := [(90, ⟨[o 158 0 6, o 162 0 6, o 213 0 1, o 202 0 1, o 204 0 1, i 21], 230, 0, none⟩),
(96, ⟨[i 0, i 1], 3, 1, none⟩),
(108, ⟨[i 3, i 4], 3, 1, none⟩),
(120, ⟨[i 6, i 7], 3, 1, none⟩),
(132, ⟨[i 9, i 10], 3, 1, none⟩),
(144, ⟨[i 12, i 13], 3, 1, none⟩),
(156, ⟨[i 15, i 16], 3, 1, none⟩),
(158, ⟨[o 96 0 2, o 108 0 2, o 120 0 2, o 132 0 2, o 144 0 2, o 156 0 2], 27, 1, none⟩),
(162, ⟨[i 2, i 5, i 8, i 11, i 14, i 17], 3, 1, none⟩),
(202, ⟨[i 1], 3, 1, none⟩),
(204, ⟨[i 0], 3, 1, none⟩),
(211, ⟨[i 18, i 19, i 20], 3, 1, none⟩),
(213, ⟨[o 211 0 3], 27, 1, none⟩),
(274, ⟨[o 316 0 21], 233, 0, none⟩),
(316, ⟨[i 0, i 1, i 2, i 3, i 4, i 5, i 6, i 7, i 8, i 9, i 10, i 11, i 12, i 13, i 14, i 15, i 16, i 17, i 18, i 19, i 20], 3, 1, none⟩),
(317, ⟨[.snil, .snil, .snil, .snil, .snil, .snil, .snil, .snil, .snil, .snil, .snil, .snil, .snil, .snil, .snil, .snil, .snil, .snil, .snil, .snil, .snil], 238, 0, none⟩),
(318, ⟨[o 513 0 1], 139, 0, none⟩),
(319, ⟨[], 0, 0, some (.map [(0, .agg [i 2, i 1], .c (.bool true)), (1, .agg [i 4, i 2], .c (.bool true)), (2, .agg [i 6, i 3], .c (.bool true)), (3, .agg [i 8, i 4], .c (.bool true)), (4, .agg [i 10, i 5], .c (.bool true))] 5)⟩),
(320, ⟨[], 0, 0, some (.map [] 6)⟩),
(321, ⟨[.snil, o 2835 0 0, .map 320, i 6], 237, 0, none⟩),
(322, ⟨[.ptr 12 0, .ptr 90 0, .ptr 274 0, o 505 0 21, o 508 0 21, o 511 0 21, f 317 0 21, .ptr 318 0, .map 319, .ptr 321 0], 145, 0, none⟩),
e 323 139,
e 326 139,
e 329 139,
(332, ⟨[o 785 0 1], 139, 0, none⟩),
(338, ⟨[o 791 0 1], 139, 0, none⟩),
e 341 139,
e 344 139,
e 347 139,
(350, ⟨[o 793 0 1], 139, 0, none⟩),
(356, ⟨[o 1286 0 1], 139, 0, none⟩),
e 359 139,
e 362 139,
e 365 139,
e 368 139,
e 371 139,
e 374 139,
(377, ⟨[o 1288 0 1], 139, 0, none⟩),
(383, ⟨[o 1791 0 1], 139, 0, none⟩),
e 386 139,
e 389 139,
e 392 139,
e 395 139,
e 398 139,
e 401 139,
(404, ⟨[o 1793 0 1], 139, 0, none⟩),
(410, ⟨[o 2306 0 1], 139, 0, none⟩),
e 413 139,
e 416 139,
e 419 139,
e 422 139,
e 425 139,
e 428 139,
(431, ⟨[o 2308 0 1], 139, 0, none⟩),
(437, ⟨[o 2831 0 1], 139, 0, none⟩),
e 440 139,
e 443 139,
e 446 139,
e 449 139,
e 452 139,
e 455 139,
(458, ⟨[o 2833 0 1], 139, 0, none⟩),
e 464 139,
e 467 139,
e 470 139,
e 473 139,
e 476 139,
e 479 139,
e 482 139,
e 485 139,
e 488 139,
e 491 139,
e 494 139,
e 497 139,
e 500 139,
e 503 139,
(505, ⟨[.ptr 323 0, .ptr 332 0, .ptr 341 0, .ptr 350 0, .ptr 359 0, .ptr 368 0, .ptr 377 0, .ptr 386 0, .ptr 395 0, .ptr 404 0, .ptr 413 0, .ptr 422 0, .ptr 431 0, .ptr 440 0, .ptr 449 0, .ptr 458 0, .ptr 467 0, .ptr 476 0, .ptr 485 0, .ptr 494 0, .ptr 503 0], 136, 1, none⟩),
e 506 139,
(508, ⟨[.ptr 326 0, .ptr 3636 0, .ptr 344 0, .ptr 3644 0, .ptr 362 0, .ptr 371 0, .ptr 3652 0, .ptr 389 0, .ptr 398 0, .ptr 3660 0, .ptr 416 0, .ptr 425 0, .ptr 3668 0, .ptr 443 0, .ptr 452 0, .ptr 3676 0, .ptr 470 0, .ptr 479 0, .ptr 488 0, .ptr 497 0, .ptr 506 0], 136, 1, none⟩),
e 509 139,
(511, ⟨[.ptr 329 0, .ptr 338 0, .ptr 347 0, .ptr 356 0, .ptr 365 0, .ptr 374 0, .ptr 383 0, .ptr 392 0, .ptr 401 0, .ptr 410 0, .ptr 419 0, .ptr 428 0, .ptr 437 0, .ptr 446 0, .ptr 455 0, .ptr 464 0, .ptr 473 0, .ptr 482 0, .ptr 491 0, .ptr 500 0, .ptr 509 0], 136, 1, none⟩),
(513, ⟨[.int .u64 (.ofNat 63)], 224, 1, none⟩),
(785, ⟨[.int .u64 (.ofNat 1)], 224, 1, none⟩),
(791, ⟨[.int .u64 (.ofNat 8)], 224, 1, none⟩),
(793, ⟨[.int .u64 (.ofNat 1)], 224, 1, none⟩),
(1286, ⟨[.int .u64 (.ofNat 64)], 224, 1, none⟩),
(1288, ⟨[.int .u64 (.ofNat 1)], 224, 1, none⟩),
(1791, ⟨[.int .u64 (.ofNat 512)], 224, 1, none⟩),
(1793, ⟨[.int .u64 (.ofNat 1)], 224, 1, none⟩),
(2306, ⟨[.int .u64 (.ofNat 4096)], 224, 1, none⟩),
(2308, ⟨[.int .u64 (.ofNat 1)], 224, 1, none⟩),
(2831, ⟨[.int .u64 (.ofNat 32768)], 224, 1, none⟩),
(2833, ⟨[.int .u64 (.ofNat 1)], 224, 1, none⟩),
(2835, ⟨[i 0, i 0, i 0, i 0, i 0, i 0], 3, 1, none⟩),
(3635, ⟨[.int .u64 (.ofNat 1)], 224, 1, none⟩),
(3636, ⟨[o 3635 0 1], 139, 0, none⟩),
(3643, ⟨[.int .u64 (.ofNat 1)], 224, 1, none⟩),
(3644, ⟨[o 3643 0 1], 139, 0, none⟩),
(3651, ⟨[.int .u64 (.ofNat 1)], 224, 1, none⟩),
(3652, ⟨[o 3651 0 1], 139, 0, none⟩),
(3659, ⟨[.int .u64 (.ofNat 1)], 224, 1, none⟩),
(3660, ⟨[o 3659 0 1], 139, 0, none⟩),
(3667, ⟨[.int .u64 (.ofNat 1)], 224, 1, none⟩),
(3668, ⟨[o 3667 0 1], 139, 0, none⟩),
(3675, ⟨[.int .u64 (.ofNat 1)], 224, 1, none⟩),
(3676, ⟨[o 3675 0 1], 139, 0, none⟩)]
private noncomputable abbrev l4 : Bls := [(1, ⟨[i 0, i 0, i 0, i 0, i 1, i 0], 69, 0, none⟩),
(2, ⟨[f 1 0 3], 47, 0, none⟩),
(4, ⟨[i 1, i 0], 69, 0, none⟩),
(5, ⟨[i 0, i 0], 69, 0, none⟩),
(7, ⟨[i 1, i 0], 69, 0, none⟩),
(9, ⟨[.snil, i 0, i 0, f 4 0 1, i 0, i 0, f 5 0 1, i 0, i 0, f 7 0 1, i 1, i 0], 72, 0, none⟩),
(10, ⟨[i 0], 3, 0, none⟩),
(11, ⟨[f 10 0 1], 74, 0, none⟩),
(12, ⟨[f 2 0 1, f 9 0 4, f 11 0 1, .snil, o 86 0 6, i 0], 57, 0, none⟩),
(20, ⟨[i 0, i 0, i 1, i 0], 69, 2, none⟩),
(21, ⟨[o 30 0 3, i 3, i 0, i 0, i 0], 46, 0, none⟩),
(27, ⟨[i 1], 3, 0, none⟩),
(30, ⟨[i 1, i 0, i 0, i 0, i 1, .snil, i 5, i 1, i 0, i 0, i 0, .snil, i 12, i 0, i 0, i 0, i 1, f 27 0 1], 29, 6, none⟩),
(35, ⟨[i 1, i 0, i 0, i 0], 69, 2, none⟩),
(36, ⟨[o 42 0 1, i 3, i 1, i 0, i 0], 46, 0, none⟩),
(39, ⟨[i 0], 3, 0, none⟩),
(42, ⟨[i 12, i 1, i 0, i 0, i 2, f 39 0 1], 29, 6, none⟩),
(47, ⟨[i 1, i 0, i 0, i 0], 69, 2, none⟩),
(48, ⟨[o 54 0 1, i 3, i 1, i 0, i 0], 46, 0, none⟩),
(51, ⟨[i 0], 3, 0, none⟩),
(54, ⟨[i 12, i 1, i 0, i 0, i 3, f 51 0 1], 29, 6, none⟩),
(59, ⟨[i 1, i 0, i 0, i 0], 69, 2, none⟩),
(60, ⟨[o 66 0 1, i 3, i 1, i 0, i 0], 46, 0, none⟩),
(63, ⟨[i 0], 3, 0, none⟩),
(66, ⟨[i 12, i 1, i 0, i 0, i 4, f 63 0 1], 29, 6, none⟩),
(71, ⟨[i 1, i 0, i 0, i 0], 69, 2, none⟩),
(72, ⟨[o 78 0 1, i 3, i 1, i 0, i 0], 46, 0, none⟩),
(75, ⟨[i 0], 3, 0, none⟩),
(78, ⟨[i 12, i 1, i 0, i 0, i 5, f 75 0 1], 29, 6, none⟩),
(83, ⟨[i 1, i 0, i 0, i 0], 69, 2, none⟩),
(84, ⟨[o 89 0 1, i 3, i 1, i 0, i 0], 46, 0, none⟩),
(86, ⟨[i 0, o 20 0 2, f 21 0 1, i 1, o 35 0 2, f 36 0 1, i 1, o 47 0 2, f 48 0 1, i 1, o 59 0 2, f 60 0 1, i 1, o 71 0 2, f 72 0 1, i 1, o 83 0 2, f 84 0 1], 50, 3, none⟩),
(89, ⟨[i 7, i 1, i 0, i 0, i 0, .snil], 29, 6, none⟩),
(90, ⟨[o 158 0 6, o 162 0 6, o 213 0 1, o 202 0 1, o 204 0 1, i 21], 230, 0, none⟩),
(96, ⟨[i 0, i 1], 3, 1, none⟩),
(108, ⟨[i 3, i 4], 3, 1, none⟩),
(120, ⟨[i 6, i 7], 3, 1, none⟩),
(132, ⟨[i 9, i 10], 3, 1, none⟩),
(144, ⟨[i 12, i 13], 3, 1, none⟩),
(156, ⟨[i 15, i 16], 3, 1, none⟩),
(158, ⟨[o 96 0 2, o 108 0 2, o 120 0 2, o 132 0 2, o 144 0 2, o 156 0 2], 27, 1, none⟩),
(162, ⟨[i 2, i 5, i 8, i 11, i 14, i 17], 3, 1, none⟩),
(202, ⟨[i 1], 3, 1, none⟩),
(204, ⟨[i 0], 3, 1, none⟩),
(211, ⟨[i 18, i 19, i 20], 3, 1, none⟩),
(213, ⟨[o 211 0 3], 27, 1, none⟩),
(274, ⟨[o 316 0 21], 233, 0, none⟩),
(316, ⟨[i 0, i 1, i 2, i 3, i 4, i 5, i 6, i 7, i 8, i 9, i 10, i 11, i 12, i 13, i 14, i 15, i 16, i 17, i 18, i 19, i 20], 3, 1, none⟩),
(317, ⟨[.snil, .snil, .snil, .snil, .snil, .snil, .snil, .snil, .snil, .snil, .snil, .snil, .snil, .snil, .snil, .snil, .snil, .snil, .snil, .snil, .snil], 238, 0, none⟩),
(318, ⟨[o 513 0 1], 139, 0, none⟩),
(319, ⟨[], 0, 0, some (.map [(0, .agg [i 2, i 1], .c (.bool true)), (1, .agg [i 4, i 2], .c (.bool true)), (2, .agg [i 6, i 3], .c (.bool true)), (3, .agg [i 8, i 4], .c (.bool true)), (4, .agg [i 10, i 5], .c (.bool true))] 5)⟩),
(320, ⟨[], 0, 0, some (.map [] 6)⟩),
(321, ⟨[.snil, o 2835 0 0, .map 320, i 6], 237, 0, none⟩),
(322, ⟨[.ptr 12 0, .ptr 90 0, .ptr 274 0, o 505 0 21, o 508 0 21, o 511 0 21, f 317 0 21, .ptr 318 0, .map 319, .ptr 321 0], 145, 0, none⟩),
e 323 139,
e 326 139,
e 329 139,
(332, ⟨[o 785 0 1], 139, 0, none⟩),
(338, ⟨[o 791 0 1], 139, 0, none⟩),
e 341 139,
e 344 139,
e 347 139,
(350, ⟨[o 793 0 1], 139, 0, none⟩),
(356, ⟨[o 1286 0 1], 139, 0, none⟩),
e 359 139,
e 362 139,
e 365 139,
e 368 139,
e 371 139,
e 374 139,
(377, ⟨[o 1288 0 1], 139, 0, none⟩),
(383, ⟨[o 1791 0 1], 139, 0, none⟩),
e 386 139,
e 389 139,
e 392 139,
e 395 139,
e 398 139,
e 401 139,
(404, ⟨[o 1793 0 1], 139, 0, none⟩),
(410, ⟨[o 2306 0 1], 139, 0, none⟩),
e 413 139,
e 416 139,
e 419 139,
e 422 139,
e 425 139,
e 428 139,
(431, ⟨[o 2308 0 1], 139, 0, none⟩),
(437, ⟨[o 2831 0 1], 139, 0, none⟩),
e 440 139,
e 443 139,
e 446 139,
e 449 139,
e 452 139,
e 455 139,
(458, ⟨[o 2833 0 1], 139, 0, none⟩),
e 464 139,
e 467 139,
e 470 139,
e 473 139,
e 476 139,
e 479 139,
e 482 139,
e 485 139,
e 488 139,
e 491 139,
e 494 139,
e 497 139,
e 500 139,
e 503 139,
(505, ⟨[.ptr 323 0, .ptr 332 0, .ptr 341 0, .ptr 350 0, .ptr 359 0, .ptr 368 0, .ptr 377 0, .ptr 386 0, .ptr 395 0, .ptr 404 0, .ptr 413 0, .ptr 422 0, .ptr 431 0, .ptr 440 0, .ptr 449 0, .ptr 458 0, .ptr 467 0, .ptr 476 0, .ptr 485 0, .ptr 494 0, .ptr 503 0], 136, 1, none⟩),
e 506 139,
(508, ⟨[.ptr 326 0, .ptr 3636 0, .ptr 344 0, .ptr 3644 0, .ptr 362 0, .ptr 371 0, .ptr 3652 0, .ptr 389 0, .ptr 398 0, .ptr 3660 0, .ptr 416 0, .ptr 425 0, .ptr 3668 0, .ptr 443 0, .ptr 452 0, .ptr 3676 0, .ptr 470 0, .ptr 479 0, .ptr 488 0, .ptr 497 0, .ptr 506 0], 136, 1, none⟩),
e 509 139,
(511, ⟨[.ptr 329 0, .ptr 338 0, .ptr 347 0, .ptr 356 0, .ptr 365 0, .ptr 374 0, .ptr 383 0, .ptr 392 0, .ptr 401 0, .ptr 410 0, .ptr 419 0, .ptr 428 0, .ptr 437 0, .ptr 446 0, .ptr 455 0, .ptr 464 0, .ptr 473 0, .ptr 482 0, .ptr 491 0, .ptr 500 0, .ptr 509 0], 136, 1, none⟩),
(513, ⟨[.int .u64 (.ofNat 63)], 224, 1, none⟩),
(785, ⟨[.int .u64 (.ofNat 1)], 224, 1, none⟩),
(791, ⟨[.int .u64 (.ofNat 8)], 224, 1, none⟩),
(793, ⟨[.int .u64 (.ofNat 1)], 224, 1, none⟩),
(1286, ⟨[.int .u64 (.ofNat 64)], 224, 1, none⟩),
(1288, ⟨[.int .u64 (.ofNat 1)], 224, 1, none⟩),
(1791, ⟨[.int .u64 (.ofNat 512)], 224, 1, none⟩),
(1793, ⟨[.int .u64 (.ofNat 1)], 224, 1, none⟩),
(2306, ⟨[.int .u64 (.ofNat 4096)], 224, 1, none⟩),
(2308, ⟨[.int .u64 (.ofNat 1)], 224, 1, none⟩),
(2831, ⟨[.int .u64 (.ofNat 32768)], 224, 1, none⟩),
(2833, ⟨[.int .u64 (.ofNat 1)], 224, 1, none⟩),
(2835, ⟨[i 0, i 0, i 0, i 0, i 0, i 0], 3, 1, none⟩),
(3635, ⟨[.int .u64 (.ofNat 1)], 224, 1, none⟩),
(3636, ⟨[o 3635 0 1], 139, 0, none⟩),
(3643, ⟨[.int .u64 (.ofNat 1)], 224, 1, none⟩),
(3644, ⟨[o 3643 0 1], 139, 0, none⟩),
(3651, ⟨[.int .u64 (.ofNat 1)], 224, 1, none⟩),
(3652, ⟨[o 3651 0 1], 139, 0, none⟩),
(3659, ⟨[.int .u64 (.ofNat 1)], 224, 1, none⟩),
(3660, ⟨[o 3659 0 1], 139, 0, none⟩),
(3667, ⟨[.int .u64 (.ofNat 1)], 224, 1, none⟩),
(3668, ⟨[o 3667 0 1], 139, 0, none⟩),
(3675, ⟨[.int .u64 (.ofNat 1)], 224, 1, none⟩),
(3676, ⟨[o 3675 0 1], 139, 0, none⟩)]
private noncomputable abbrev l5 : Bls := [(4555, ⟨[], 0, 0, some (.map [(0, .agg [i 4, i 0, i 0, i 1, i 0], .c (o 6760 0 1)), (1, .agg [i 4, i 0, i 0, i 1, i 1], .c (o 6775 0 1)), (2, .agg [i 4, i 0, i 0, i 1, i 2], .c (o 6790 0 1)), (3, .agg [i 1, i 1, i 0, i 0, i 0], .c (o 6824 0 1)), (4, .agg [i 5, i 1, i 0, i 0, i 0], .c (o 6829 0 1)), (5, .agg [i 3, i 1, i 0, i 1, i 0], .c (o 6886 0 2)), (6, .agg [i 1, i 2, i 0, i 0, i 0], .c (o 6869 0 1)), (7, .agg [i 3, i 1, i 0, i 1, i 1], .c (o 6903 0 1)), (8, .agg [i 3, i 1, i 0, i 1, i 2], .c (o 6920 0 1)), (9, .agg [i 2, i 1, i 0, i 0, i 0], .c (o 6947 0 1)), (10, .agg [i 5, i 2, i 0, i 0, i 0], .c (o 6952 0 1)), (11, .agg [i 4, i 1, i 0, i 1, i 0], .c (o 7005 0 2)), (12, .agg [i 1, i 4, i 0, i 0, i 0], .c (o 6990 0 1)), (13, .agg [i 2, i 2, i 0, i 0, i 0], .c (o 7032 0 1)), (14, .agg [i 5, i 3, i 0, i 0, i 0], .c (o 7037 0 1)), (15, .agg [i 4, i 2, i 0, i 1, i 0], .c (o 7090 0 2)), (16, .agg [i 1, i 6, i 0, i 0, i 0], .c (o 7075 0 1)), (17, .agg [i 2, i 3, i 0, i 0, i 0], .c (o 7117 0 1)), (18, .agg [i 5, i 4, i 0, i 0, i 0], .c (o 7122 0 1)), (19, .agg [i 4, i 3, i 0, i 1, i 0], .c (o 7175 0 2)), (20, .agg [i 1, i 8, i 0, i 0, i 0], .c (o 7160 0 1)), (21, .agg [i 2, i 4, i 0, i 0, i 0], .c (o 7202 0 1)), (22, .agg [i 5, i 5, i 0, i 0, i 0], .c (o 7207 0 1)), (23, .agg [i 4, i 4, i 0, i 1, i 0], .c (o 7260 0 2)), (24, .agg [i 1, i 10, i 0, i 0, i 0], .c (o 7245 0 1)), (25, .agg [i 4, i 5, i 0, i 1, i 0], .c (o 7328 0 2)), (26, .agg [i 1, i 12, i 0, i 0, i 0], .c (o 7313 0 1))] 27)⟩),
(4556, ⟨[.map 4555, .md 1 (.ofNat 0) true], 155, 0, none⟩),
(6760, ⟨[i 3, i 1, i 0, i 1, i 0], 116, 5, none⟩),
(6775, ⟨[i 3, i 1, i 0, i 1, i 1], 116, 5, none⟩),
(6790, ⟨[i 3, i 1, i 0, i 1, i 2], 116, 5, none⟩),
(6824, ⟨[i 2, i 1, i 0, i 0, i 0], 116, 5, none⟩),
(6829, ⟨[i 1, i 2, i 0, i 0, i 0], 116, 5, none⟩),
(6869, ⟨[i 5, i 0, i 0, i 0, i 0], 116, 5, none⟩),
(6886, ⟨[i 4, i 1, i 0, i 1, i 0, i 6, i 0, i 0, i 1, i 0], 116, 5, none⟩),
(6903, ⟨[i 6, i 0, i 0, i 1, i 1], 116, 5, none⟩),
(6920, ⟨[i 6, i 0, i 0, i 1, i 2], 116, 5, none⟩),
(6947, ⟨[i 2, i 2, i 0, i 0, i 0], 116, 5, none⟩),
(6952, ⟨[i 1, i 4, i 0, i 0, i 0], 116, 5, none⟩),
(6990, ⟨[i 5, i 1, i 0, i 0, i 0], 116, 5, none⟩),
(7005, ⟨[i 4, i 2, i 0, i 1, i 0, i 6, i 1, i 0, i 1, i 0], 116, 5, none⟩),
(7032, ⟨[i 2, i 3, i 0, i 0, i 0], 116, 5, none⟩),
(7037, ⟨[i 1, i 6, i 0, i 0, i 0], 116, 5, none⟩),
(7075, ⟨[i 5, i 2, i 0, i 0, i 0], 116, 5, none⟩),
(7090, ⟨[i 4, i 3, i 0, i 1, i 0, i 6, i 2, i 0, i 1, i 0], 116, 5, none⟩),
(7117, ⟨[i 2, i 4, i 0, i 0, i 0], 116, 5, none⟩),
(7122, ⟨[i 1, i 8, i 0, i 0, i 0], 116, 5, none⟩),
(7160, ⟨[i 5, i 3, i 0, i 0, i 0], 116, 5, none⟩),
(7175, ⟨[i 4, i 4, i 0, i 1, i 0, i 6, i 3, i 0, i 1, i 0], 116, 5, none⟩),
(7202, ⟨[i 2, i 5, i 0, i 0, i 0], 116, 5, none⟩),
(7207, ⟨[i 1, i 10, i 0, i 0, i 0], 116, 5, none⟩),
(7245, ⟨[i 5, i 4, i 0, i 0, i 0], 116, 5, none⟩),
(7260, ⟨[i 4, i 5, i 0, i 1, i 0, i 6, i 4, i 0, i 1, i 0], 116, 5, none⟩),
(7313, ⟨[i 5, i 5, i 0, i 0, i 0], 116, 5, none⟩),
(7328, ⟨[i 1, i 12, i 0, i 0, i 0, i 6, i 5, i 0, i 1, i 0], 116, 5, none⟩)]
private noncomputable def m0 : MM := ⟨[48], l0, 90, [⟨48, 0, [.v (.c (.ptr 12 0))], .v (.c (.nili))⟩]⟩
private theorem m0_k : H0.tbl m0 = true := by kernel_rfl
private noncomputable def h1 : HK := H0.memo m0 m0_k
private noncomputable def m1 : MM := ⟨[155], l1, 193, [⟨155, 0, [.v (.c (.ptr 12 0)), .v (.c (i 0))], .tup [.agg [i 0, i 0, i 0], .c (.bool true)]⟩,
⟨155, 1, [.v (.c (.ptr 12 0)), .v (.c (i 1))], .tup [.agg [i 0, i 0, i 1], .c (.bool true)]⟩,
⟨155, 2, [.v (.c (.ptr 12 0)), .v (.c (i 2))], .tup [.agg [i 0, i 0, i 2], .c (.bool true)]⟩,
⟨155, 3, [.v (.c (.ptr 12 0)), .v (.c (i 3))], .tup [.agg [i 0, i 0, i 3], .c (.bool true)]⟩,
⟨155, 4, [.v (.c (.ptr 12 0)), .v (.c (i 4))], .tup [.agg [i 1, i 0, i 0], .c (.bool true)]⟩,
⟨155, 5, [.v (.c (.ptr 12 0)), .v (.c (i 5))], .tup [.agg [i 1, i 0, i 1], .c (.bool true)]⟩,
⟨155, 6, [.v (.c (.ptr 12 0)), .v (.c (i 6))], .tup [.agg [i 2, i 0, i 0], .c (.bool true)]⟩,
⟨155, 7, [.v (.c (.ptr 12 0)), .v (.c (i 7))], .tup [.agg [i 2, i 0, i 1], .c (.bool true)]⟩,
⟨155, 8, [.v (.c (.ptr 12 0)), .v (.c (i 8))], .tup [.agg [i 3, i 0, i 0], .c (.bool true)]⟩,
⟨155, 9, [.v (.c (.ptr 12 0)), .v (.c (i 9))], .tup [.agg [i 3, i 0, i 1], .c (.bool true)]⟩,
⟨155, 10, [.v (.c (.ptr 12 0)), .v (.c (i 10))], .tup [.agg [i 4, i 0, i 0], .c (.bool true)]⟩,
⟨155, 11, [.v (.c (.ptr 12 0)), .v (.c (i 11))], .tup [.agg [i 4, i 0, i 1], .c (.bool true)]⟩,
⟨155, 12, [.v (.c (.ptr 12 0)), .v (.c (i 12))], .tup [.agg [i 5, i 0, i 0], .c (.bool true)]⟩,
⟨155, 13, [.v (.c (.ptr 12 0)), .v (.c (i 13))], .tup [.agg [i 5, i 0, i 1], .c (.bool true)]⟩]⟩
private theorem m1_k : h1.tbl m1 = true := by kernel_rfl
private noncomputable def h2 : HK := h1.memo m1 m1_k
private noncomputable def s1 : RE := ⟨76, [.v (.c (.ptr 12 0))], 90, .v (.c (.ptr 90 0)), l2, 274⟩
private theorem s1_k : h2.srp l0 s1 = true := by kernel_rfl
private noncomputable def h3 : HK := h2.srep _ s1 s1_k
private noncomputable def s2 : RE := ⟨49, [.v (.c (.ptr 12 0)), .v (.c (.snil))], 90, .v (.c (.ptr 322 0)), l3, 3677⟩
private theorem s2_k : h3.rep l0 s2 = true := by kernel_rfl
private noncomputable def h4 : HK := h3.repl _ s2 s2_k
private noncomputable def s3 : RE := ⟨151, [.v (.c (.ptr 12 0)), .v (.c (.ptr 322 0)), .v (.c (i 2))], 3857, .v (.c (.snil)), [], 3994⟩
private theorem s3_k : h4.srp l4 s3 = true := by kernel_rfl
private noncomputable def h5 : HK := h4.srep _ s3 s3_k
private noncomputable def s4 : RE := ⟨151, [.v (.c (.ptr 12 0)), .v (.c (.ptr 322 0)), .v (.c (i 4))], 4010, .v (.c (.snil)), [], 4138⟩
private theorem s4_k : h5.srp l4 s4 = true := by kernel_rfl
private noncomputable def h6 : HK := h5.srep _ s4 s4_k
private noncomputable def s5 : RE := ⟨151, [.v (.c (.ptr 12 0)), .v (.c (.ptr 322 0)), .v (.c (i 6))], 4154, .v (.c (.snil)), [], 4273⟩
private theorem s5_k : h6.srp l4 s5 = true := by kernel_rfl
private noncomputable def h7 : HK := h6.srep _ s5 s5_k
private noncomputable def s6 : RE := ⟨151, [.v (.c (.ptr 12 0)), .v (.c (.ptr 322 0)), .v (.c (i 8))], 4289, .v (.c (.snil)), [], 4399⟩
private theorem s6_k : h7.srp l4 s6 = true := by kernel_rfl
private noncomputable def h8 : HK := h7.srep _ s6 s6_k
private noncomputable def s7 : RE := ⟨151, [.v (.c (.ptr 12 0)), .v (.c (.ptr 322 0)), .v (.c (i 10))], 4415, .v (.c (.snil)), [], 4516⟩
private theorem s7_k : h8.srp l4 s7 = true := by kernel_rfl
private noncomputable def h9 : HK := h8.srep _ s7 s7_k
private noncomputable def s8 : RE := ⟨85, [.v (.c (.ptr 12 0)), .v (.c (.ptr 322 0)), .v (.c (i 0))], 4558, .v (.c (o 4863 0 3)), [(4863, ⟨[i 1, i 0, i 1, i 1, i 1, i 2, i 0, i 0], 114, 2, none⟩)], 4879⟩
private theorem s8_k : h9.srp l4 s8 = true := by kernel_rfl
private noncomputable def h10 : HK := h9.srep _ s8 s8_k
private noncomputable def s9 : RE := ⟨86, [.v (.c (.ptr 12 0)), .v (.c (.ptr 322 0)), .v (.c (i 0))], 4881, .v (.c (o 4968 0 3)), [(4968, ⟨[i 1, i 0, i 1, i 1, i 1, i 2], 114, 2, none⟩)], 5035⟩
private theorem s9_k : h10.srp l4 s9 = true := by kernel_rfl
private noncomputable def h11 : HK := h10.srep _ s9 s9_k
private noncomputable def s10 : RE := ⟨85, [.v (.c (.ptr 12 0)), .v (.c (.ptr 322 0)), .v (.c (i 1))], 5037, .v (.c (o 5295 0 1)), [(5295, ⟨[i 1, i 0], 114, 2, none⟩)], 5296⟩
private theorem s10_k : h11.srp l4 s10 = true := by kernel_rfl
private noncomputable def h12 : HK := h11.srep _ s10 s10_k
private noncomputable def s11 : RE := ⟨86, [.v (.c (.ptr 12 0)), .v (.c (.ptr 322 0)), .v (.c (i 1))], 5298, .v (.c (.snil)), [], 5422⟩
private theorem s11_k : h12.srp l4 s11 = true := by kernel_rfl
private noncomputable def h13 : HK := h12.srep _ s11 s11_k
private noncomputable def s12 : RE := ⟨85, [.v (.c (.ptr 12 0)), .v (.c (.ptr 322 0)), .v (.c (i 2))], 5424, .v (.c (o 5664 0 1)), [(5664, ⟨[i 1, i 0], 114, 2, none⟩)], 5665⟩
private theorem s12_k : h13.srp l4 s12 = true := by kernel_rfl
private noncomputable def h14 : HK := h13.srep _ s12 s12_k
private noncomputable def s13 : RE := ⟨86, [.v (.c (.ptr 12 0)), .v (.c (.ptr 322 0)), .v (.c (i 2))], 5667, .v (.c (.snil)), [], 5782⟩
private theorem s13_k : h14.srp l4 s13 = true := by kernel_rfl
private noncomputable def h15 : HK := h14.srep _ s13 s13_k
private noncomputable def s14 : RE := ⟨85, [.v (.c (.ptr 12 0)), .v (.c (.ptr 322 0)), .v (.c (i 3))], 5784, .v (.c (o 6006 0 1)), [(6006, ⟨[i 1, i 0], 114, 2, none⟩)], 6007⟩
private theorem s14_k : h15.srp l4 s14 = true := by kernel_rfl
private noncomputable def h16 : HK := h15.srep _ s14 s14_k
private noncomputable def s15 : RE := ⟨86, [.v (.c (.ptr 12 0)), .v (.c (.ptr 322 0)), .v (.c (i 3))], 6009, .v (.c (.snil)), [], 6115⟩
private theorem s15_k : h16.srp l4 s15 = true := by kernel_rfl
private noncomputable def h17 : HK := h16.srep _ s15 s15_k
private noncomputable def s16 : RE := ⟨85, [.v (.c (.ptr 12 0)), .v (.c (.ptr 322 0)), .v (.c (i 4))], 6117, .v (.c (o 6321 0 1)), [(6321, ⟨[i 1, i 0], 114, 2, none⟩)], 6322⟩
private theorem s16_k : h17.srp l4 s16 = true := by kernel_rfl
private noncomputable def h18 : HK := h17.srep _ s16 s16_k
private noncomputable def s17 : RE := ⟨86, [.v (.c (.ptr 12 0)), .v (.c (.ptr 322 0)), .v (.c (i 4))], 6324, .v (.c (.snil)), [], 6421⟩
private theorem s17_k : h18.srp l4 s17 = true := by kernel_rfl
private noncomputable def h19 : HK := h18.srep _ s17 s17_k
private noncomputable def s18 : RE := ⟨85, [.v (.c (.ptr 12 0)), .v (.c (.ptr 322 0)), .v (.c (i 5))], 6423, .v (.c (o 6609 0 1)), [(6609, ⟨[i 1, i 0], 114, 2, none⟩)], 6610⟩
private theorem s18_k : h19.srp l4 s18 = true := by kernel_rfl
private noncomputable def h20 : HK := h19.srep _ s18 s18_k
private noncomputable def s19 : RE := ⟨86, [.v (.c (.ptr 12 0)), .v (.c (.ptr 322 0)), .v (.c (i 5))], 6612, .v (.c (.snil)), [], 6700⟩
private theorem s19_k : h20.srp l4 s19 = true := by kernel_rfl
private noncomputable def h21 : HK := h20.srep _ s19 s19_k
private noncomputable def s20 : RE := ⟨50, [.v (.c (.ptr 12 0)), .v (.c (.ptr 322 0))], 3677, .v (.c (.ptr 4556 0)), l5, 7330⟩
private theorem s20_k : h21.rep l4 s20 = true := by kernel_rfl
private noncomputable def h22 : HK := h21.repl _ s20 s20_k
theorem TopNilParam_4_f_run : isBool true (runW h22.K 12 [mi 8 4, ab false] s0) = true := by kernel_rfl
theorem TopNilParam_4_f_law {args : Array Value} (ha : VAs (fun _ => none) [mi 8 4, ab false] args.toList) (w : World) (hT : Tab w) :
    Calls Tryz.prog 12 args w fun e w' => Below w.heap.size w w' ∧ e = .returned (.bool true) := h22.law TopNilParam_4_f_run ha w hT
end Go.Proofs.YteajpblmbmncdaaGreatDoor
