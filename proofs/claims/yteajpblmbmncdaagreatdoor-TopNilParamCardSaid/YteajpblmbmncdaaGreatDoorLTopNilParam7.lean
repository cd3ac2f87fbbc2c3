/- Tables of calls, and a run that uses them. -/
import Derived.Test.YteajpblmbmncdaaGreatDoorLn
namespace Go.Proofs.YteajpblmbmncdaaGreatDoor
open Go Go.RowKit Ev
set_option maxRecDepth 100000
set_option linter.unusedVariables false
private noncomputable abbrev i (n : Nat) : CV := .int .i64 (.ofNat n)
private noncomputable abbrev o (b a n : Nat) : CV := .slice b a n (.opn 0)
private noncomputable abbrev f (b a n : Nat) : CV := .slice b a n (.fix n)
private noncomputable abbrev e (k t : Nat) : Nat × BK := (k, ⟨[.snil], t, 0, none⟩)
private noncomputable abbrev l0 : Bls := [(1, ⟨[i 0, i 0, i 0, i 0, i 1, i 0], 69, 0, none⟩),
(2, ⟨[f 1 0 3], 47, 0, none⟩),
(4, ⟨[i 1, i 0], 69, 0, none⟩),
(5, ⟨[i 0, i 0], 69, 0, none⟩),
(7, ⟨[i 1, i 0], 69, 0, none⟩),
(9, ⟨[.snil, i 0, i 0, f 4 0 1, i 0, i 0, f 5 0 1, i 0, i 0, f 7 0 1, i 1, i 0], 72, 0, none⟩),
(10, ⟨[i 0], 3, 0, none⟩),
(11, ⟨[f 10 0 1], 74, 0, none⟩),
(12, ⟨[f 2 0 1, f 9 0 4, f 11 0 1, .snil, o 74 0 5, i 0], 57, 0, none⟩),
(20, ⟨[i 0, i 0, i 1, i 0], 69, 2, none⟩),
(21, ⟨[o 30 0 3, i 3, i 0, i 0, i 0], 46, 0, none⟩),
(27, ⟨[i 1], 3, 0, none⟩),
(30, ⟨[i 1, i 0, i 0, i 0, i 1, .snil, i 5, i 1, i 0, i 0, i 0, .snil, i 12, i 0, i 0, i 0, i 1, f 27 0 1], 29, 6, none⟩),
(35, ⟨[i 1, i 0, i 0, i 0], 69, 2, none⟩),
(36, ⟨[o 42 0 1, i 3, i 1, i 0, i 0], 46, 0, none⟩),
(39, ⟨[i 0], 3, 0, none⟩),
(42, ⟨[i 12, i 1, i 0, i 0, i 2, f 39 0 1], 29, 6, none⟩),
(47, ⟨[i 1, i 0, i 0, i 0], 69, 2, none⟩),
(48, ⟨[o 54 0 1, i 3, i 1, i 0, i 0], 46, 0, none⟩),
(51, ⟨[i 0], 3, 0, none⟩),
(54, ⟨[i 12, i 1, i 0, i 0, i 3, f 51 0 1], 29, 6, none⟩),
(59, ⟨[i 1, i 0, i 0, i 0], 69, 2, none⟩),
(60, ⟨[o 66 0 1, i 3, i 1, i 0, i 0], 46, 0, none⟩),
(63, ⟨[i 0], 3, 0, none⟩),
(66, ⟨[i 12, i 1, i 0, i 0, i 4, f 63 0 1], 29, 6, none⟩),
(71, ⟨[i 1, i 0, i 0, i 0], 69, 2, none⟩),
(72, ⟨[o 77 0 1, i 3, i 1, i 0, i 0], 46, 0, none⟩),
(74, ⟨[i 0, o 20 0 2, f 21 0 1, i 1, o 35 0 2, f 36 0 1, i 1, o 47 0 2, f 48 0 1, i 1, o 59 0 2, f 60 0 1, i 1, o 71 0 2, f 72 0 1], 50, 3, none⟩),
(77, ⟨[i 7, i 1, i 0, i 0, i 0, .snil], 29, 6, none⟩)]
private noncomputable abbrev l1 : Bls := [(12, ⟨[f 2 0 1, f 9 0 4, f 11 0 1, .snil, o 74 0 5, i 0], 57, 0, none⟩),
(21, ⟨[o 30 0 3, i 3, i 0, i 0, i 0], 46, 0, none⟩),
(36, ⟨[o 42 0 1, i 3, i 1, i 0, i 0], 46, 0, none⟩),
(48, ⟨[o 54 0 1, i 3, i 1, i 0, i 0], 46, 0, none⟩),
(60, ⟨[o 66 0 1, i 3, i 1, i 0, i 0], 46, 0, none⟩),
(72, ⟨[o 77 0 1, i 3, i 1, i 0, i 0], 46, 0, none⟩),
(74, ⟨[i 0, o 20 0 2, f 21 0 1, i 1, o 35 0 2, f 36 0 1, i 1, o 47 0 2, f 48 0 1, i 1, o 59 0 2, f 60 0 1, i 1, o 71 0 2, f 72 0 1], 50, 3, none⟩)]
private noncomputable abbrev l2 : Bls := [(78, ⟨[o 134 0 5, o 138 0 5, o 185 0 1, o 174 0 1, o 176 0 1, i 18], 230, 0, none⟩),
(84, ⟨[i 0, i 1], 3, 1, none⟩),
(96, ⟨[i 3, i 4], 3, 1, none⟩),
(108, ⟨[i 6, i 7], 3, 1, none⟩),
(120, ⟨[i 9, i 10], 3, 1, none⟩),
(132, ⟨[i 12, i 13], 3, 1, none⟩),
(134, ⟨[o 84 0 2, o 96 0 2, o 108 0 2, o 120 0 2, o 132 0 2], 27, 1, none⟩),
(138, ⟨[i 2, i 5, i 8, i 11, i 14], 3, 1, none⟩),
(174, ⟨[i 1], 3, 1, none⟩),
(176, ⟨[i 0], 3, 1, none⟩),
(183, ⟨[i 15, i 16, i 17], 3, 1, none⟩),
(185, ⟨[o 183 0 3], 27, 1, none⟩)]
private noncomputable abbrev l3 : Bls := [(78, ⟨[o 134 0 5, o 138 0 5, o 185 0 1, o 174 0 1, o 176 0 1, i 18], 230, 0, none⟩),
(84, ⟨[i 0, i 1], 3, 1, none⟩),
(96, ⟨[i 3, i 4], 3, 1, none⟩),
(108, ⟨[i 6, i 7], 3, 1, none⟩),
(120, ⟨[i 9, i 10], 3, 1, none⟩),
(132, ⟨[i 12, i 13], 3, 1, none⟩),
(134, ⟨[o 84 0 2, o 96 0 2, o 108 0 2, o 120 0 2, o 132 0 2], 27, 1, none⟩),
(138, ⟨[i 2, i 5, i 8, i 11, i 14], 3, 1, none⟩),
(174, ⟨[i 1], 3, 1, none⟩),
(176, ⟨[i 0], 3, 1, none⟩),
(183, ⟨[i 15, i 16, i 17], 3, 1, none⟩),
(185, ⟨[o 183 0 3], 27, 1, none⟩),
(236, ⟨[o 272 0 18], 233, 0, none⟩),
(272, ⟨[i 0, i 1, i 2, i 3, i 4, i 5, i 6, i 7, i 8, i 9, i 10, i 11, i 12, i 13, i 14, i 15, i 16, i 17], 3, 1, none⟩),
(273, ⟨[.snil, .snil, .snil, .snil, .snil, .snil, .snil, .snil, .snil, .snil, .snil, .snil, .snil, .snil, .snil, .snil, .snil, .snil], 238, 0, none⟩),
(274, ⟨[o 442 0 1], 139, 0, none⟩),
(275, ⟨[], 0, 0, some (.map [(0, .agg [i 2, i 1], .c (.bool true)), (1, .agg [i 4, i 2], .c (.bool true)), (2, .agg [i 6, i 3], .c (.bool true)), (3, .agg [i 8, i 4], .c (.bool true))] 4)⟩),
(276, ⟨[], 0, 0, some (.map [] 5)⟩),
(277, ⟨[.snil, o 2021 0 0, .map 276, i 5], 237, 0, none⟩),
(278, ⟨[.ptr 12 0, .ptr 78 0, .ptr 236 0, o 434 0 18, o 437 0 18, o 440 0 18, f 273 0 18, .ptr 274 0, .map 275, .ptr 277 0], 145, 0, none⟩),
e 279 139,
e 282 139,
e 285 139,
(288, ⟨[o 682 0 1], 139, 0, none⟩),
(294, ⟨[o 688 0 1], 139, 0, none⟩),
e 297 139,
e 300 139,
e 303 139,
(306, ⟨[o 690 0 1], 139, 0, none⟩),
(312, ⟨[o 1121 0 1], 139, 0, none⟩),
e 315 139,
e 318 139,
e 321 139,
e 324 139,
e 327 139,
e 330 139,
(333, ⟨[o 1123 0 1], 139, 0, none⟩),
(339, ⟨[o 1564 0 1], 139, 0, none⟩),
e 342 139,
e 345 139,
e 348 139,
e 351 139,
e 354 139,
e 357 139,
(360, ⟨[o 1566 0 1], 139, 0, none⟩),
(366, ⟨[o 2017 0 1], 139, 0, none⟩),
e 369 139,
e 372 139,
e 375 139,
e 378 139,
e 381 139,
e 384 139,
(387, ⟨[o 2019 0 1], 139, 0, none⟩),
e 393 139,
e 396 139,
e 399 139,
e 402 139,
e 405 139,
e 408 139,
e 411 139,
e 414 139,
e 417 139,
e 420 139,
e 423 139,
e 426 139,
e 429 139,
e 432 139,
(434, ⟨[.ptr 279 0, .ptr 288 0, .ptr 297 0, .ptr 306 0, .ptr 315 0, .ptr 324 0, .ptr 333 0, .ptr 342 0, .ptr 351 0, .ptr 360 0, .ptr 369 0, .ptr 378 0, .ptr 387 0, .ptr 396 0, .ptr 405 0, .ptr 414 0, .ptr 423 0, .ptr 432 0], 136, 1, none⟩),
e 435 139,
(437, ⟨[.ptr 282 0, .ptr 2681 0, .ptr 300 0, .ptr 2689 0, .ptr 318 0, .ptr 327 0, .ptr 2697 0, .ptr 345 0, .ptr 354 0, .ptr 2705 0, .ptr 372 0, .ptr 381 0, .ptr 2713 0, .ptr 399 0, .ptr 408 0, .ptr 417 0, .ptr 426 0, .ptr 435 0], 136, 1, none⟩),
e 438 139,
(440, ⟨[.ptr 285 0, .ptr 294 0, .ptr 303 0, .ptr 312 0, .ptr 321 0, .ptr 330 0, .ptr 339 0, .ptr 348 0, .ptr 357 0, .ptr 366 0, .ptr 375 0, .ptr 384 0, .ptr 393 0, .ptr 402 0, .ptr 411 0, .ptr 420 0, .ptr 429 0, .ptr 438 0], 136, 1, none⟩),
(442, ⟨[.int .u64 (.ofNat 31)], 224, 1, none⟩),
(682, ⟨[.int .u64 (.ofNat 1)], 224, 1, none⟩),
(688, ⟨[.int .u64 (.ofNat 8)], 224, 1, none⟩),
(690, ⟨[.int .u64 (.ofNat 1)], 224, 1, none⟩),
(1121, ⟨[.int .u64 (.ofNat 64)], 224, 1, none⟩),
(1123, ⟨[.int .u64 (.ofNat 1)], 224, 1, none⟩),
(1564, ⟨[.int .u64 (.ofNat 512)], 224, 1, none⟩),
(1566, ⟨[.int .u64 (.ofNat 1)], 224, 1, none⟩),
(2017, ⟨[.int .u64 (.ofNat 4096)], 224, 1, none⟩),
(2019, ⟨[.int .u64 (.ofNat 1)], 224, 1, none⟩),
(2021, ⟨[i 0, i 0, i 0, i 0, i 0], 3, 1, none⟩),
(2680, ⟨[.int .u64 (.ofNat 1)], 224, 1, none⟩),
(2681, ⟨[o 2680 0 1], 139, 0, none⟩),
(2688, ⟨[.int .u64 (.ofNat 1)], 224, 1, none⟩),
(2689, ⟨[o 2688 0 1], 139, 0, none⟩),
(2696, ⟨[.int .u64 (.ofNat 1)], 224, 1, none⟩),
(2697, ⟨[o 2696 0 1], 139, 0, none⟩),
(2704, ⟨[.int .u64 (.ofNat 1)], 224, 1, none⟩),
(2705, ⟨[o 2704 0 1], 139, 0, none⟩),
(2712, ⟨[.int .u64 (.ofNat 1)], 224, 1, none⟩),
(2713, ⟨[o 2712 0 1], 139, 0, none⟩)]
private noncomputable abbrev l4 : Bls := [(1, ⟨[i 0, i 0, i 0, i 0, i 1, i 0], 69, 0, none⟩),
(2, ⟨[f 1 0 3], 47, 0, none⟩),
(4, ⟨[i 1, i 0], 69, 0, none⟩),
(5, ⟨[i 0, i 0], 69, 0, none⟩),
(7, ⟨[i 1, i 0], 69, 0, none⟩),
(9, ⟨[.snil, i 0, i 0, f 4 0 1, i 0, i 0, f 5 0 1, i 0, i 0, f 7 0 1, i 1, i 0], 72, 0, none⟩),
(10, ⟨[i 0], 3, 0, none⟩),
(11, ⟨[f 10 0 1], 74, 0, none⟩),
(12, ⟨[f 2 0 1, f 9 0 4, f 11 0 1, .snil, o 74 0 5, i 0], 57, 0, none⟩),
(20, ⟨[i 0, i 0, i 1, i 0], 69, 2, none⟩),
(21, ⟨[o 30 0 3, i 3, i 0, i 0, i 0], 46, 0, none⟩),
(27, ⟨[i 1], 3, 0, none⟩),
(30, ⟨[i 1, i 0, i 0, i 0, i 1, .snil, i 5, i 1, i 0, i 0, i 0, .snil, i 12, i 0, i 0, i 0, i 1, f 27 0 1], 29, 6, none⟩),
(35, ⟨[i 1, i 0, i 0, i 0], 69, 2, none⟩),
(36, ⟨[o 42 0 1, i 3, i 1, i 0, i 0], 46, 0, none⟩),
(39, ⟨[i 0], 3, 0, none⟩),
(42, ⟨[i 12, i 1, i 0, i 0, i 2, f 39 0 1], 29, 6, none⟩),
(47, ⟨[i 1, i 0, i 0, i 0], 69, 2, none⟩),
(48, ⟨[o 54 0 1, i 3, i 1, i 0, i 0], 46, 0, none⟩),
(51, ⟨[i 0], 3, 0, none⟩),
(54, ⟨[i 12, i 1, i 0, i 0, i 3, f 51 0 1], 29, 6, none⟩),
(59, ⟨[i 1, i 0, i 0, i 0], 69, 2, none⟩),
(60, ⟨[o 66 0 1, i 3, i 1, i 0, i 0], 46, 0, none⟩),
(63, ⟨[i 0], 3, 0, none⟩),
(66, ⟨[i 12, i 1, i 0, i 0, i 4, f 63 0 1], 29, 6, none⟩),
(71, ⟨[i 1, i 0, i 0, i 0], 69, 2, none⟩),
(72, ⟨[o 77 0 1, i 3, i 1, i 0, i 0], 46, 0, none⟩),
(74, ⟨[i 0, o 20 0 2, f 21 0 1, i 1, o 35 0 2, f 36 0 1, i 1, o 47 0 2, f 48 0 1, i 1, o 59 0 2, f 60 0 1, i 1, o 71 0 2, f 72 0 1], 50, 3, none⟩),
(77, ⟨[i 7, i 1, i 0, i 0, i 0, .snil], 29, 6, none⟩),
(78, ⟨[o 134 0 5, o 138 0 5, o 185 0 1, o 174 0 1, o 176 0 1, i 18], 230, 0, none⟩),
(84, ⟨[i 0, i 1], 3, 1, none⟩),
(96, ⟨[i 3, i 4], 3, 1, none⟩),
(108, ⟨[i 6, i 7], 3, 1, none⟩),
(120, ⟨[i 9, i 10], 3, 1, none⟩),
(132, ⟨[i 12, i 13], 3, 1, none⟩),
(134, ⟨[o 84 0 2, o 96 0 2, o 108 0 2, o 120 0 2, o 132 0 2], 27, 1, none⟩),
(138, ⟨[i 2, i 5, i 8, i 11, i 14], 3, 1, none⟩),
(174, ⟨[i 1], 3, 1, none⟩),
(176, ⟨[i 0], 3, 1, none⟩),
(183, ⟨[i 15, i 16, i 17], 3, 1, none⟩),
(185, ⟨[o 183 0 3], 27, 1, none⟩),
(236, ⟨[o 272 0 18], 233, 0, none⟩),
(272, ⟨[i 0, i 1, i 2, i 3, i 4, i 5, i 6, i 7, i 8, i 9, i 10, i 11, i 12, i 13, i 14, i 15, i 16, i 17], 3, 1, none⟩),
(273, ⟨[.snil, .snil, .snil, .snil, .snil, .snil, .snil, .snil, .snil, .snil, .snil, .snil, .snil, .snil, .snil, .snil, .snil, .snil], 238, 0, none⟩),
(274, ⟨[o 442 0 1], 139, 0, none⟩),
(275, ⟨[], 0, 0, some (.map [(0, .agg [i 2, i 1], .c (.bool true)), (1, .agg [i 4, i 2], .c (.bool true)), (2, .agg [i 6, i 3], .c (.bool true)), (3, .agg [i 8, i 4], .c (.bool true))] 4)⟩),
(276, ⟨[], 0, 0, some (.map [] 5)⟩),
(277, ⟨[.snil, o 2021 0 0, .map 276, i 5], 237, 0, none⟩),
(278, ⟨[.ptr 12 0, .ptr 78 0, .ptr 236 0, o 434 0 18, o 437 0 18, o 440 0 18, f 273 0 18, .ptr 274 0, .map 275, .ptr 277 0], 145, 0, none⟩),
e 279 139,
e 282 139,
e 285 139,
(288, ⟨[o 682 0 1], 139, 0, none⟩),
(294, ⟨[o 688 0 1], 139, 0, none⟩),
e 297 139,
e 300 139,
e 303 139,
(306, ⟨[o 690 0 1], 139, 0, none⟩),
(312, ⟨[o 1121 0 1], 139, 0, none⟩),
e 315 139,
e 318 139,
e 321 139,
e 324 139,
e 327 139,
e 330 139,
(333, ⟨[o 1123 0 1], 139, 0, none⟩),
(339, ⟨[o 1564 0 1], 139, 0, none⟩),
e 342 139,
e 345 139,
e 348 139,
e 351 139,
e 354 139,
e 357 139,
(360, ⟨[o 1566 0 1], 139, 0, none⟩),
(366, ⟨[o 2017 0 1], 139, 0, none⟩),
e 369 139,
e 372 139,
e 375 139,
e 378 139,
e 381 139,
e 384 139,
(387, ⟨[o 2019 0 1], 139, 0, none⟩),
e 393 139,
e 396 139,
e 399 139,
e 402 139,
e 405 139,
e 408 139,
e 411 139,
e 414 139,
e 417 139,
e 420 139,
e 423 139,
e 426 139,
e 429 139,
e 432 139,
(434, ⟨[.ptr 279 0, .ptr 288 0, .ptr 297 0, .ptr 306 0, .ptr 315 0, .ptr 324 0, .ptr 333 0, .ptr 342 0, .ptr 351 0, .ptr 360 0, .ptr 369 0, .ptr 378 0, .ptr 387 0, .ptr 396 0, .ptr 405 0, .ptr 414 0, .ptr 423 0, .ptr 432 0], 136, 1, none⟩),
e 435 139,
(437, ⟨[.ptr 282 0, .ptr 2681 0, .ptr 300 0, .ptr 2689 0, .ptr 318 0, .ptr 327 0, .ptr 2697 0, .ptr 345 0, .ptr 354 0, .ptr 2705 0, .ptr 372 0, .ptr 381 0, .ptr 2713 0, .ptr 399 0, .ptr 408 0, .ptr 417 0, .ptr 426 0, .ptr 435 0], 136, 1, none⟩),
e 438 139,
(440, ⟨[.ptr 285 0, .ptr 294 0, .ptr 303 0, .ptr 312 0, .ptr 321 0, .ptr 330 0, .ptr 339 0, .ptr 348 0, .ptr 357 0, .ptr 366 0, .ptr 375 0, .ptr 384 0, .ptr 393 0, .ptr 402 0, .ptr 411 0, .ptr 420 0, .ptr 429 0, .ptr 438 0], 136, 1, none⟩),
(442, ⟨[.int .u64 (.ofNat 31)], 224, 1, none⟩),
(682, ⟨[.int .u64 (.ofNat 1)], 224, 1, none⟩),
(688, ⟨[.int .u64 (.ofNat 8)], 224, 1, none⟩),
(690, ⟨[.int .u64 (.ofNat 1)], 224, 1, none⟩),
(1121, ⟨[.int .u64 (.ofNat 64)], 224, 1, none⟩),
(1123, ⟨[.int .u64 (.ofNat 1)], 224, 1, none⟩),
(1564, ⟨[.int .u64 (.ofNat 512)], 224, 1, none⟩),
(1566, ⟨[.int .u64 (.ofNat 1)], 224, 1, none⟩),
(2017, ⟨[.int .u64 (.ofNat 4096)], 224, 1, none⟩),
(2019, ⟨[.int .u64 (.ofNat 1)], 224, 1, none⟩),
(2021, ⟨[i 0, i 0, i 0, i 0, i 0], 3, 1, none⟩),
(2680, ⟨[.int .u64 (.ofNat 1)], 224, 1, none⟩),
(2681, ⟨[o 2680 0 1], 139, 0, none⟩),
(2688, ⟨[.int .u64 (.ofNat 1)], 224, 1, none⟩),
(2689, ⟨[o 2688 0 1], 139, 0, none⟩),
(2696, ⟨[.int .u64 (.ofNat 1)], 224, 1, none⟩),
(2697, ⟨[o 2696 0 1], 139, 0, none⟩),
(2704, ⟨[.int .u64 (.ofNat 1)], 224, 1, none⟩),
(2705, ⟨[o 2704 0 1], 139, 0, none⟩),
(2712, ⟨[.int .u64 (.ofNat 1)], 224, 1, none⟩),
(2713, ⟨[o 2712 0 1], 139, 0, none⟩)]
private noncomputable abbrev l5 : Bls := [(3375, ⟨[], 0, 0, some (.map [(0, .agg [i 4, i 0, i 0, i 1, i 0], .c (o 5012 0 1)), (1, .agg [i 4, i 0, i 0, i 1, i 1], .c (o 5027 0 1)), (2, .agg [i 4, i 0, i 0, i 1, i 2], .c (o 5042 0 1)), (3, .agg [i 1, i 1, i 0, i 0, i 0], .c (o 5075 0 1)), (4, .agg [i 5, i 1, i 0, i 0, i 0], .c (o 5080 0 1)), (5, .agg [i 3, i 1, i 0, i 1, i 0], .c (o 5137 0 2)), (6, .agg [i 1, i 2, i 0, i 0, i 0], .c (o 5120 0 1)), (7, .agg [i 3, i 1, i 0, i 1, i 1], .c (o 5154 0 1)), (8, .agg [i 3, i 1, i 0, i 1, i 2], .c (o 5171 0 1)), (9, .agg [i 2, i 1, i 0, i 0, i 0], .c (o 5197 0 1)), (10, .agg [i 5, i 2, i 0, i 0, i 0], .c (o 5202 0 1)), (11, .agg [i 4, i 1, i 0, i 1, i 0], .c (o 5255 0 2)), (12, .agg [i 1, i 4, i 0, i 0, i 0], .c (o 5240 0 1)), (13, .agg [i 2, i 2, i 0, i 0, i 0], .c (o 5281 0 1)), (14, .agg [i 5, i 3, i 0, i 0, i 0], .c (o 5286 0 1)), (15, .agg [i 4, i 2, i 0, i 1, i 0], .c (o 5339 0 2)), (16, .agg [i 1, i 6, i 0, i 0, i 0], .c (o 5324 0 1)), (17, .agg [i 2, i 3, i 0, i 0, i 0], .c (o 5365 0 1)), (18, .agg [i 5, i 4, i 0, i 0, i 0], .c (o 5370 0 1)), (19, .agg [i 4, i 3, i 0, i 1, i 0], .c (o 5423 0 2)), (20, .agg [i 1, i 8, i 0, i 0, i 0], .c (o 5408 0 1)), (21, .agg [i 4, i 4, i 0, i 1, i 0], .c (o 5491 0 2)), (22, .agg [i 1, i 10, i 0, i 0, i 0], .c (o 5476 0 1))] 23)⟩),
(3376, ⟨[.map 3375, .md 1 (.ofNat 0) true], 155, 0, none⟩),
(5012, ⟨[i 3, i 1, i 0, i 1, i 0], 116, 5, none⟩),
(5027, ⟨[i 3, i 1, i 0, i 1, i 1], 116, 5, none⟩),
(5042, ⟨[i 3, i 1, i 0, i 1, i 2], 116, 5, none⟩),
(5075, ⟨[i 2, i 1, i 0, i 0, i 0], 116, 5, none⟩),
(5080, ⟨[i 1, i 2, i 0, i 0, i 0], 116, 5, none⟩),
(5120, ⟨[i 5, i 0, i 0, i 0, i 0], 116, 5, none⟩),
(5137, ⟨[i 4, i 1, i 0, i 1, i 0, i 6, i 0, i 0, i 1, i 0], 116, 5, none⟩),
(5154, ⟨[i 6, i 0, i 0, i 1, i 1], 116, 5, none⟩),
(5171, ⟨[i 6, i 0, i 0, i 1, i 2], 116, 5, none⟩),
(5197, ⟨[i 2, i 2, i 0, i 0, i 0], 116, 5, none⟩),
(5202, ⟨[i 1, i 4, i 0, i 0, i 0], 116, 5, none⟩),
(5240, ⟨[i 5, i 1, i 0, i 0, i 0], 116, 5, none⟩),
(5255, ⟨[i 4, i 2, i 0, i 1, i 0, i 6, i 1, i 0, i 1, i 0], 116, 5, none⟩),
(5281, ⟨[i 2, i 3, i 0, i 0, i 0], 116, 5, none⟩),
(5286, ⟨[i 1, i 6, i 0, i 0, i 0], 116, 5, none⟩),
(5324, ⟨[i 5, i 2, i 0, i 0, i 0], 116, 5, none⟩),
(5339, ⟨[i 4, i 3, i 0, i 1, i 0, i 6, i 2, i 0, i 1, i 0], 116, 5, none⟩),
(5365, ⟨[i 2, i 4, i 0, i 0, i 0], 116, 5, none⟩),
(5370, ⟨[i 1, i 8, i 0, i 0, i 0], 116, 5, none⟩),
(5408, ⟨[i 5, i 3, i 0, i 0, i 0], 116, 5, none⟩),
(5423, ⟨[i 4, i 4, i 0, i 1, i 0, i 6, i 3, i 0, i 1, i 0], 116, 5, none⟩),
(5476, ⟨[i 5, i 4, i 0, i 0, i 0], 116, 5, none⟩),
(5491, ⟨[i 1, i 10, i 0, i 0, i 0, i 6, i 4, i 0, i 1, i 0], 116, 5, none⟩)]
private noncomputable def m0 : MM := ⟨[48], l0, 78, [⟨48, 0, [.v (.c (.ptr 12 0))], .v (.c (.nili))⟩]⟩
private theorem m0_k : H0.tbl m0 = true := by kernel_rfl
private noncomputable def h1 : HK := H0.memo m0 m0_k
private noncomputable def m1 : MM := ⟨[155], l1, 165, [⟨155, 0, [.v (.c (.ptr 12 0)), .v (.c (i 0))], .tup [.agg [i 0, i 0, i 0], .c (.bool true)]⟩,
⟨155, 1, [.v (.c (.ptr 12 0)), .v (.c (i 1))], .tup [.agg [i 0, i 0, i 1], .c (.bool true)]⟩,
⟨155, 2, [.v (.c (.ptr 12 0)), .v (.c (i 2))], .tup [.agg [i 0, i 0, i 2], .c (.bool true)]⟩,
⟨155, 3, [.v (.c (.ptr 12 0)), .v (.c (i 3))], .tup [.agg [i 0, i 0, i 3], .c (.bool true)]⟩,
⟨155, 4, [.v (.c (.ptr 12 0)), .v (.c (i 4))], .tup [.agg [i 1, i 0, i 0], .c (.bool true)]⟩,
⟨155, 5, [.v (.c (.ptr 12 0)), .v (.c (i 5))], .tup [.agg [i 1, i 0, i 1], .c (.bool true)]⟩,
⟨155, 6, [.v (.c (.ptr 12 0)), .v (.c (i 6))], .tup [.agg [i 2, i 0, i 0], .c (.bool true)]⟩,
⟨155, 7, [.v (.c (.ptr 12 0)), .v (.c (i 7))], .tup [.agg [i 2, i 0, i 1], .c (.bool true)]⟩,
⟨155, 8, [.v (.c (.ptr 12 0)), .v (.c (i 8))], .tup [.agg [i 3, i 0, i 0], .c (.bool true)]⟩,
⟨155, 9, [.v (.c (.ptr 12 0)), .v (.c (i 9))], .tup [.agg [i 3, i 0, i 1], .c (.bool true)]⟩,
⟨155, 10, [.v (.c (.ptr 12 0)), .v (.c (i 10))], .tup [.agg [i 4, i 0, i 0], .c (.bool true)]⟩,
⟨155, 11, [.v (.c (.ptr 12 0)), .v (.c (i 11))], .tup [.agg [i 4, i 0, i 1], .c (.bool true)]⟩]⟩
private theorem m1_k : h1.tbl m1 = true := by kernel_rfl
private noncomputable def h2 : HK := h1.memo m1 m1_k
private noncomputable def s1 : RE := ⟨76, [.v (.c (.ptr 12 0))], 78, .v (.c (.ptr 78 0)), l2, 236⟩
private theorem s1_k : h2.srp l0 s1 = true := by kernel_rfl
private noncomputable def h3 : HK := h2.srep _ s1 s1_k
private noncomputable def s2 : RE := ⟨49, [.v (.c (.ptr 12 0)), .v (.c (.snil))], 78, .v (.c (.ptr 278 0)), l3, 2714⟩
private theorem s2_k : h3.rep l0 s2 = true := by kernel_rfl
private noncomputable def h4 : HK := h3.repl _ s2 s2_k
private noncomputable def s3 : RE := ⟨151, [.v (.c (.ptr 12 0)), .v (.c (.ptr 278 0)), .v (.c (i 2))], 2874, .v (.c (.snil)), [], 2991⟩
private theorem s3_k : h4.srp l4 s3 = true := by kernel_rfl
private noncomputable def h5 : HK := h4.srep _ s3 s3_k
private noncomputable def s4 : RE := ⟨151, [.v (.c (.ptr 12 0)), .v (.c (.ptr 278 0)), .v (.c (i 4))], 3007, .v (.c (.snil)), [], 3115⟩
private theorem s4_k : h5.srp l4 s4 = true := by kernel_rfl
private noncomputable def h6 : HK := h5.srep _ s4 s4_k
private noncomputable def s5 : RE := ⟨151, [.v (.c (.ptr 12 0)), .v (.c (.ptr 278 0)), .v (.c (i 6))], 3131, .v (.c (.snil)), [], 3230⟩
private theorem s5_k : h6.srp l4 s5 = true := by kernel_rfl
private noncomputable def h7 : HK := h6.srep _ s5 s5_k
private noncomputable def s6 : RE := ⟨151, [.v (.c (.ptr 12 0)), .v (.c (.ptr 278 0)), .v (.c (i 8))], 3246, .v (.c (.snil)), [], 3336⟩
private theorem s6_k : h7.srp l4 s6 = true := by kernel_rfl
private noncomputable def h8 : HK := h7.srep _ s6 s6_k
private noncomputable def s7 : RE := ⟨85, [.v (.c (.ptr 12 0)), .v (.c (.ptr 278 0)), .v (.c (i 0))], 3378, .v (.c (o 3645 0 3)), [(3645, ⟨[i 1, i 0, i 1, i 1, i 1, i 2, i 0, i 0], 114, 2, none⟩)], 3661⟩
private theorem s7_k : h8.srp l4 s7 = true := by kernel_rfl
private noncomputable def h9 : HK := h8.srep _ s7 s7_k
private noncomputable def s8 : RE := ⟨86, [.v (.c (.ptr 12 0)), .v (.c (.ptr 278 0)), .v (.c (i 0))], 3663, .v (.c (o 3741 0 3)), [(3741, ⟨[i 1, i 0, i 1, i 1, i 1, i 2], 114, 2, none⟩)], 3798⟩
private theorem s8_k : h9.srp l4 s8 = true := by kernel_rfl
private noncomputable def h10 : HK := h9.srep _ s8 s8_k
private noncomputable def s9 : RE := ⟨85, [.v (.c (.ptr 12 0)), .v (.c (.ptr 278 0)), .v (.c (i 1))], 3800, .v (.c (o 4020 0 1)), [(4020, ⟨[i 1, i 0], 114, 2, none⟩)], 4021⟩
private theorem s9_k : h10.srp l4 s9 = true := by kernel_rfl
private noncomputable def h11 : HK := h10.srep _ s9 s9_k
private noncomputable def s10 : RE := ⟨86, [.v (.c (.ptr 12 0)), .v (.c (.ptr 278 0)), .v (.c (i 1))], 4023, .v (.c (.snil)), [], 4128⟩
private theorem s10_k : h11.srp l4 s10 = true := by kernel_rfl
private noncomputable def h12 : HK := h11.srep _ s10 s10_k
private noncomputable def s11 : RE := ⟨85, [.v (.c (.ptr 12 0)), .v (.c (.ptr 278 0)), .v (.c (i 2))], 4130, .v (.c (o 4332 0 1)), [(4332, ⟨[i 1, i 0], 114, 2, none⟩)], 4333⟩
private theorem s11_k : h12.srp l4 s11 = true := by kernel_rfl
private noncomputable def h13 : HK := h12.srep _ s11 s11_k
private noncomputable def s12 : RE := ⟨86, [.v (.c (.ptr 12 0)), .v (.c (.ptr 278 0)), .v (.c (i 2))], 4335, .v (.c (.snil)), [], 4431⟩
private theorem s12_k : h13.srp l4 s12 = true := by kernel_rfl
private noncomputable def h14 : HK := h13.srep _ s12 s12_k
private noncomputable def s13 : RE := ⟨85, [.v (.c (.ptr 12 0)), .v (.c (.ptr 278 0)), .v (.c (i 3))], 4433, .v (.c (o 4617 0 1)), [(4617, ⟨[i 1, i 0], 114, 2, none⟩)], 4618⟩
private theorem s13_k : h14.srp l4 s13 = true := by kernel_rfl
private noncomputable def h15 : HK := h14.srep _ s13 s13_k
private noncomputable def s14 : RE := ⟨86, [.v (.c (.ptr 12 0)), .v (.c (.ptr 278 0)), .v (.c (i 3))], 4620, .v (.c (.snil)), [], 4707⟩
private theorem s14_k : h15.srp l4 s14 = true := by kernel_rfl
private noncomputable def h16 : HK := h15.srep _ s14 s14_k
private noncomputable def s15 : RE := ⟨85, [.v (.c (.ptr 12 0)), .v (.c (.ptr 278 0)), .v (.c (i 4))], 4709, .v (.c (o 4875 0 1)), [(4875, ⟨[i 1, i 0], 114, 2, none⟩)], 4876⟩
private theorem s15_k : h16.srp l4 s15 = true := by kernel_rfl
private noncomputable def h17 : HK := h16.srep _ s15 s15_k
private noncomputable def s16 : RE := ⟨86, [.v (.c (.ptr 12 0)), .v (.c (.ptr 278 0)), .v (.c (i 4))], 4878, .v (.c (.snil)), [], 4956⟩
private theorem s16_k : h17.srp l4 s16 = true := by kernel_rfl
private noncomputable def h18 : HK := h17.srep _ s16 s16_k
private noncomputable def s17 : RE := ⟨50, [.v (.c (.ptr 12 0)), .v (.c (.ptr 278 0))], 2714, .v (.c (.ptr 3376 0)), l5, 5493⟩
private theorem s17_k : h18.rep l4 s17 = true := by kernel_rfl
private noncomputable def h19 : HK := h18.repl _ s17 s17_k
theorem TopNilParam_3_f_run : isBool true (runW h19.K 12 [mi 8 3, ab false] s0) = true := by kernel_rfl
theorem TopNilParam_3_f_law {args : Array Value} (ha : VAs (fun _ => none) [mi 8 3, ab false] args.toList) (w : World) (hT : Tab w) :
    Calls Tryz.prog 12 args w fun e w' => Below w.heap.size w w' ∧ e = .returned (.bool true) := h19.law TopNilParam_3_f_run ha w hT
end Go.Proofs.YteajpblmbmncdaaGreatDoor
