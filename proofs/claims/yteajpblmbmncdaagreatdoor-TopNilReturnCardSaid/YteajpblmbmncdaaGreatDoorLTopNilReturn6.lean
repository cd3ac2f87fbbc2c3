/- Tables of calls, and a run that uses them. -/
import Derived.Test.YteajpblmbmncdaaGreatDoorLn
namespace Go.Proofs.YteajpblmbmncdaaGreatDoor
open Go Go.RowKit Ev
set_option maxRecDepth 100000
set_option linter.unusedVariables false
private noncomputable abbrev i (n : Nat) : CV := .int .i64 (.ofNat n)
private noncomputable abbrev o (b a n : Nat) : CV := .slice b a n (.opn 0)
private noncomputable abbrev f (b a n : Nat) : CV := .slice b a n (.fix n)
private noncomputable abbrev e (k t : Nat) : Nat × BK := (k, ⟨[.snil], t, 0, none⟩)
private noncomputable abbrev l0 : Bls := [(1, ⟨[i 0, i 0, i 0, i 0, i 1, i 0], 69, 0, none⟩),
(2, ⟨[f 1 0 3], 47, 0, none⟩),
(4, ⟨[i 1, i 0], 69, 0, none⟩),
(5, ⟨[i 0, i 0], 69, 0, none⟩),
(7, ⟨[i 1, i 0], 69, 0, none⟩),
(9, ⟨[.snil, i 0, i 0, f 4 0 1, i 0, i 0, f 5 0 1, i 0, i 0, f 7 0 1, i 1, i 0], 72, 0, none⟩),
(10, ⟨[i 0], 3, 0, none⟩),
(11, ⟨[f 10 0 1], 74, 0, none⟩),
(12, ⟨[f 2 0 1, f 9 0 4, f 11 0 1, .snil, o 81 0 5, i 0], 57, 0, none⟩),
(23, ⟨[i 0, i 0, i 1, i 0, i 1, i 0], 69, 2, none⟩),
(24, ⟨[o 33 0 4, i 3, i 0, i 0, i 0], 46, 0, none⟩),
(29, ⟨[i 1], 3, 0, none⟩),
(33, ⟨[i 1, i 0, i 0, i 0, i 1, .snil, i 5, i 1, i 0, i 0, i 0, .snil, i 12, i 2, i 0, i 0, i 1, f 29 0 1, i 8, i 0, i 2, i 0, i 0, .snil], 29, 6, none⟩),
(39, ⟨[i 1, i 0, i 1, i 0], 69, 2, none⟩),
(40, ⟨[o 46 0 1, i 3, i 1, i 0, i 0], 46, 0, none⟩),
(43, ⟨[i 0], 3, 0, none⟩),
(46, ⟨[i 12, i 1, i 0, i 0, i 2, f 43 0 1], 29, 6, none⟩),
(52, ⟨[i 1, i 0, i 1, i 0], 69, 2, none⟩),
(53, ⟨[o 59 0 1, i 3, i 1, i 0, i 0], 46, 0, none⟩),
(56, ⟨[i 0], 3, 0, none⟩),
(59, ⟨[i 12, i 1, i 0, i 0, i 3, f 56 0 1], 29, 6, none⟩),
(65, ⟨[i 1, i 0, i 1, i 0], 69, 2, none⟩),
(66, ⟨[o 72 0 1, i 3, i 1, i 0, i 0], 46, 0, none⟩),
(69, ⟨[i 0], 3, 0, none⟩),
(72, ⟨[i 12, i 1, i 0, i 0, i 4, f 69 0 1], 29, 6, none⟩),
(78, ⟨[i 1, i 0, i 1, i 0], 69, 2, none⟩),
(79, ⟨[o 84 0 1, i 3, i 1, i 0, i 0], 46, 0, none⟩),
(81, ⟨[i 0, o 23 0 3, f 24 0 1, i 3, o 39 0 2, f 40 0 1, i 3, o 52 0 2, f 53 0 1, i 3, o 65 0 2, f 66 0 1, i 3, o 78 0 2, f 79 0 1], 50, 3, none⟩),
(84, ⟨[i 4, i 1, i 0, i 0, i 0, .snil], 29, 6, none⟩)]
private noncomputable abbrev l1 : Bls := [(12, ⟨[f 2 0 1, f 9 0 4, f 11 0 1, .snil, o 81 0 5, i 0], 57, 0, none⟩),
(24, ⟨[o 33 0 4, i 3, i 0, i 0, i 0], 46, 0, none⟩),
(40, ⟨[o 46 0 1, i 3, i 1, i 0, i 0], 46, 0, none⟩),
(53, ⟨[o 59 0 1, i 3, i 1, i 0, i 0], 46, 0, none⟩),
(66, ⟨[o 72 0 1, i 3, i 1, i 0, i 0], 46, 0, none⟩),
(79, ⟨[o 84 0 1, i 3, i 1, i 0, i 0], 46, 0, none⟩),
(81, ⟨[i 0, o 23 0 3, f 24 0 1, i 3, o 39 0 2, f 40 0 1, i 3, o 52 0 2, f 53 0 1, i 3, o 65 0 2, f 66 0 1, i 3, o 78 0 2, f 79 0 1], 50, 3, none⟩)]
private noncomputable abbrev l2 : Bls := [(87, ⟨[o 145 0 5, o 149 0 5, o 198 0 1, o 187 0 1, o 189 0 1, i 19], 230, 0, none⟩),
(95, ⟨[i 0, i 1, i 2], 3, 1, none⟩),
(107, ⟨[i 4, i 5], 3, 1, none⟩),
(119, ⟨[i 7, i 8], 3, 1, none⟩),
(131, ⟨[i 10, i 11], 3, 1, none⟩),
(143, ⟨[i 13, i 14], 3, 1, none⟩),
(145, ⟨[o 95 0 3, o 107 0 2, o 119 0 2, o 131 0 2, o 143 0 2], 27, 1, none⟩),
(149, ⟨[i 3, i 6, i 9, i 12, i 15], 3, 1, none⟩),
(187, ⟨[i 1], 3, 1, none⟩),
(189, ⟨[i 0], 3, 1, none⟩),
(196, ⟨[i 16, i 17, i 18], 3, 1, none⟩),
(198, ⟨[o 196 0 3], 27, 1, none⟩)]
private noncomputable abbrev l3 : Bls := [(87, ⟨[o 145 0 5, o 149 0 5, o 198 0 1, o 187 0 1, o 189 0 1, i 19], 230, 0, none⟩),
(95, ⟨[i 0, i 1, i 2], 3, 1, none⟩),
(107, ⟨[i 4, i 5], 3, 1, none⟩),
(119, ⟨[i 7, i 8], 3, 1, none⟩),
(131, ⟨[i 10, i 11], 3, 1, none⟩),
(143, ⟨[i 13, i 14], 3, 1, none⟩),
(145, ⟨[o 95 0 3, o 107 0 2, o 119 0 2, o 131 0 2, o 143 0 2], 27, 1, none⟩),
(149, ⟨[i 3, i 6, i 9, i 12, i 15], 3, 1, none⟩),
(187, ⟨[i 1], 3, 1, none⟩),
(189, ⟨[i 0], 3, 1, none⟩),
(196, ⟨[i 16, i 17, i 18], 3, 1, none⟩),
(198, ⟨[o 196 0 3], 27, 1, none⟩),
(254, ⟨[o 292 0 19], 233, 0, none⟩),
(292, ⟨[i 0, i 1, i 2, i 3, i 4, i 5, i 6, i 7, i 8, i 9, i 10, i 11, i 12, i 13, i 14, i 15, i 16, i 17, i 18], 3, 1, none⟩),
(293, ⟨[.snil, .snil, .snil, .snil, .snil, .snil, .snil, .snil, .snil, .snil, .snil, .snil, .snil, .snil, .snil, .snil, .snil, .snil, .snil], 238, 0, none⟩),
(294, ⟨[o 471 0 1], 139, 0, none⟩),
(295, ⟨[], 0, 0, some (.map [(0, .agg [i 2, i 1], .c (.bool true)), (1, .agg [i 5, i 2], .c (.bool true)), (2, .agg [i 7, i 3], .c (.bool true)), (3, .agg [i 9, i 4], .c (.bool true))] 4)⟩),
(296, ⟨[], 0, 0, some (.map [] 5)⟩),
(297, ⟨[.snil, o 2194 0 0, .map 296, i 5], 237, 0, none⟩),
(298, ⟨[.ptr 12 0, .ptr 87 0, .ptr 254 0, o 463 0 19, o 466 0 19, o 469 0 19, f 293 0 19, .ptr 294 0, .map 295, .ptr 297 0], 145, 0, none⟩),
e 299 139,
e 302 139,
e 305 139,
(308, ⟨[o 732 0 1], 139, 0, none⟩),
(314, ⟨[o 738 0 1], 139, 0, none⟩),
e 317 139,
e 320 139,
e 323 139,
e 326 139,
e 329 139,
e 332 139,
(335, ⟨[o 740 0 1], 139, 0, none⟩),
(341, ⟨[o 1206 0 1], 139, 0, none⟩),
e 344 139,
e 347 139,
(350, ⟨[o 1218 0 1], 139, 0, none⟩),
e 353 139,
e 356 139,
(359, ⟨[o 746 0 1], 139, 0, none⟩),
(362, ⟨[o 1208 0 1], 139, 0, none⟩),
(368, ⟨[o 1693 0 1], 139, 0, none⟩),
e 371 139,
e 374 139,
(377, ⟨[o 1705 0 1], 139, 0, none⟩),
e 380 139,
e 383 139,
(386, ⟨[o 1214 0 1], 139, 0, none⟩),
(389, ⟨[o 1695 0 1], 139, 0, none⟩),
(395, ⟨[o 2190 0 1], 139, 0, none⟩),
e 398 139,
e 401 139,
(404, ⟨[o 2202 0 1], 139, 0, none⟩),
e 407 139,
e 410 139,
(413, ⟨[o 1701 0 1], 139, 0, none⟩),
(416, ⟨[o 2192 0 1], 139, 0, none⟩),
e 422 139,
e 425 139,
e 428 139,
(431, ⟨[o 2690 0 1], 139, 0, none⟩),
e 434 139,
e 437 139,
(440, ⟨[o 2198 0 1], 139, 0, none⟩),
e 443 139,
e 446 139,
e 449 139,
e 452 139,
e 455 139,
e 458 139,
e 461 139,
(463, ⟨[.ptr 299 0, .ptr 308 0, .ptr 317 0, .ptr 326 0, .ptr 335 0, .ptr 344 0, .ptr 353 0, .ptr 362 0, .ptr 371 0, .ptr 380 0, .ptr 389 0, .ptr 398 0, .ptr 407 0, .ptr 416 0, .ptr 425 0, .ptr 434 0, .ptr 443 0, .ptr 452 0, .ptr 461 0], 136, 1, none⟩),
e 464 139,
(466, ⟨[.ptr 302 0, .ptr 2912 0, .ptr 320 0, .ptr 329 0, .ptr 2920 0, .ptr 347 0, .ptr 356 0, .ptr 2928 0, .ptr 374 0, .ptr 383 0, .ptr 2936 0, .ptr 401 0, .ptr 410 0, .ptr 2944 0, .ptr 428 0, .ptr 437 0, .ptr 446 0, .ptr 455 0, .ptr 464 0], 136, 1, none⟩),
e 467 139,
(469, ⟨[.ptr 305 0, .ptr 314 0, .ptr 323 0, .ptr 332 0, .ptr 341 0, .ptr 350 0, .ptr 359 0, .ptr 368 0, .ptr 377 0, .ptr 386 0, .ptr 395 0, .ptr 404 0, .ptr 413 0, .ptr 422 0, .ptr 431 0, .ptr 440 0, .ptr 449 0, .ptr 458 0, .ptr 467 0], 136, 1, none⟩),
(471, ⟨[.int .u64 (.ofNat 31)], 224, 1, none⟩),
(732, ⟨[.int .u64 (.ofNat 1)], 224, 1, none⟩),
(738, ⟨[.int .u64 (.ofNat 16)], 224, 1, none⟩),
(740, ⟨[.int .u64 (.ofNat 1)], 224, 1, none⟩),
(746, ⟨[.int .u64 (.ofNat 4)], 224, 1, none⟩),
(1206, ⟨[.int .u64 (.ofNat 128)], 224, 1, none⟩),
(1208, ⟨[.int .u64 (.ofNat 1)], 224, 1, none⟩),
(1214, ⟨[.int .u64 (.ofNat 32)], 224, 1, none⟩),
(1218, ⟨[.int .u64 (.ofNat 64)], 224, 1, none⟩),
(1693, ⟨[.int .u64 (.ofNat 1024)], 224, 1, none⟩),
(1695, ⟨[.int .u64 (.ofNat 1)], 224, 1, none⟩),
(1701, ⟨[.int .u64 (.ofNat 256)], 224, 1, none⟩),
(1705, ⟨[.int .u64 (.ofNat 512)], 224, 1, none⟩),
(2190, ⟨[.int .u64 (.ofNat 8192)], 224, 1, none⟩),
(2192, ⟨[.int .u64 (.ofNat 1)], 224, 1, none⟩),
(2194, ⟨[i 0, i 0, i 0, i 0, i 0], 3, 1, none⟩),
(2198, ⟨[.int .u64 (.ofNat 2048)], 224, 1, none⟩),
(2202, ⟨[.int .u64 (.ofNat 4096)], 224, 1, none⟩),
(2690, ⟨[.int .u64 (.ofNat 32768)], 224, 1, none⟩),
(2911, ⟨[.int .u64 (.ofNat 1)], 224, 1, none⟩),
(2912, ⟨[o 2911 0 1], 139, 0, none⟩),
(2919, ⟨[.int .u64 (.ofNat 1)], 224, 1, none⟩),
(2920, ⟨[o 2919 0 1], 139, 0, none⟩),
(2927, ⟨[.int .u64 (.ofNat 1)], 224, 1, none⟩),
(2928, ⟨[o 2927 0 1], 139, 0, none⟩),
(2935, ⟨[.int .u64 (.ofNat 1)], 224, 1, none⟩),
(2936, ⟨[o 2935 0 1], 139, 0, none⟩),
(2943, ⟨[.int .u64 (.ofNat 1)], 224, 1, none⟩),
(2944, ⟨[o 2943 0 1], 139, 0, none⟩)]
private noncomputable abbrev l4 : Bls := [(1, ⟨[i 0, i 0, i 0, i 0, i 1, i 0], 69, 0, none⟩),
(2, ⟨[f 1 0 3], 47, 0, none⟩),
(4, ⟨[i 1, i 0], 69, 0, none⟩),
(5, ⟨[i 0, i 0], 69, 0, none⟩),
(7, ⟨[i 1, i 0], 69, 0, none⟩),
(9, ⟨[.snil, i 0, i 0, f 4 0 1, i 0, i 0, f 5 0 1, i 0, i 0, f 7 0 1, i 1, i 0], 72, 0, none⟩),
(10, ⟨[i 0], 3, 0, none⟩),
(11, ⟨[f 10 0 1], 74, 0, none⟩),
(12, ⟨[f 2 0 1, f 9 0 4, f 11 0 1, .snil, o 81 0 5, i 0], 57, 0, none⟩),
(23, ⟨[i 0, i 0, i 1, i 0, i 1, i 0], 69, 2, none⟩),
(24, ⟨[o 33 0 4, i 3, i 0, i 0, i 0], 46, 0, none⟩),
(29, ⟨[i 1], 3, 0, none⟩),
(33, ⟨[i 1, i 0, i 0, i 0, i 1, .snil, i 5, i 1, i 0, i 0, i 0, .snil, i 12, i 2, i 0, i 0, i 1, f 29 0 1, i 8, i 0, i 2, i 0, i 0, .snil], 29, 6, none⟩),
(39, ⟨[i 1, i 0, i 1, i 0], 69, 2, none⟩),
(40, ⟨[o 46 0 1, i 3, i 1, i 0, i 0], 46, 0, none⟩),
(43, ⟨[i 0], 3, 0, none⟩),
(46, ⟨[i 12, i 1, i 0, i 0, i 2, f 43 0 1], 29, 6, none⟩),
(52, ⟨[i 1, i 0, i 1, i 0], 69, 2, none⟩),
(53, ⟨[o 59 0 1, i 3, i 1, i 0, i 0], 46, 0, none⟩),
(56, ⟨[i 0], 3, 0, none⟩),
(59, ⟨[i 12, i 1, i 0, i 0, i 3, f 56 0 1], 29, 6, none⟩),
(65, ⟨[i 1, i 0, i 1, i 0], 69, 2, none⟩),
(66, ⟨[o 72 0 1, i 3, i 1, i 0, i 0], 46, 0, none⟩),
(69, ⟨[i 0], 3, 0, none⟩),
(72, ⟨[i 12, i 1, i 0, i 0, i 4, f 69 0 1], 29, 6, none⟩),
(78, ⟨[i 1, i 0, i 1, i 0], 69, 2, none⟩),
(79, ⟨[o 84 0 1, i 3, i 1, i 0, i 0], 46, 0, none⟩),
(81, ⟨[i 0, o 23 0 3, f 24 0 1, i 3, o 39 0 2, f 40 0 1, i 3, o 52 0 2, f 53 0 1, i 3, o 65 0 2, f 66 0 1, i 3, o 78 0 2, f 79 0 1], 50, 3, none⟩),
(84, ⟨[i 4, i 1, i 0, i 0, i 0, .snil], 29, 6, none⟩),
(87, ⟨[o 145 0 5, o 149 0 5, o 198 0 1, o 187 0 1, o 189 0 1, i 19], 230, 0, none⟩),
(95, ⟨[i 0, i 1, i 2], 3, 1, none⟩),
(107, ⟨[i 4, i 5], 3, 1, none⟩),
(119, ⟨[i 7, i 8], 3, 1, none⟩),
(131, ⟨[i 10, i 11], 3, 1, none⟩),
(143, ⟨[i 13, i 14], 3, 1, none⟩),
(145, ⟨[o 95 0 3, o 107 0 2, o 119 0 2, o 131 0 2, o 143 0 2], 27, 1, none⟩),
(149, ⟨[i 3, i 6, i 9, i 12, i 15], 3, 1, none⟩),
(187, ⟨[i 1], 3, 1, none⟩),
(189, ⟨[i 0], 3, 1, none⟩),
(196, ⟨[i 16, i 17, i 18], 3, 1, none⟩),
(198, ⟨[o 196 0 3], 27, 1, none⟩),
(254, ⟨[o 292 0 19], 233, 0, none⟩),
(292, ⟨[i 0, i 1, i 2, i 3, i 4, i 5, i 6, i 7, i 8, i 9, i 10, i 11, i 12, i 13, i 14, i 15, i 16, i 17, i 18], 3, 1, none⟩),
(293, ⟨[.snil, .snil, .snil, .snil, .snil, .snil, .snil, .snil, .snil, .snil, .snil, .snil, .snil, .snil, .snil, .snil, .snil, .snil, .snil], 238, 0, none⟩),
(294, ⟨[o 471 0 1], 139, 0, none⟩),
(295, ⟨[], 0, 0, some (.map [(0, .agg [i 2, i 1], .c (.bool true)), (1, .agg [i 5, i 2], .c (.bool true)), (2, .agg [i 7, i 3], .c (.bool true)), (3, .agg [i 9, i 4], .c (.bool true))] 4)⟩),
(296, ⟨[], 0, 0, some (.map [] 5)⟩),
(297, ⟨[.snil, o 2194 0 0, .map 296, i 5], 237, 0, none⟩),
(298, ⟨[.ptr 12 0, .ptr 87 0, .ptr 254 0, o 463 0 19, o 466 0 19, o 469 0 19, f 293 0 19, .ptr 294 0, .map 295, .ptr 297 0], 145, 0, none⟩),
e 299 139,
e 302 139,
e 305 139,
(308, ⟨[o 732 0 1], 139, 0, none⟩),
(314, ⟨[o 738 0 1], 139, 0, none⟩),
e 317 139,
e 320 139,
e 323 139,
e 326 139,
e 329 139,
e 332 139,
(335, ⟨[o 740 0 1], 139, 0, none⟩),
(341, ⟨[o 1206 0 1], 139, 0, none⟩),
e 344 139,
e 347 139,
(350, ⟨[o 1218 0 1], 139, 0, none⟩),
e 353 139,
e 356 139,
(359, ⟨[o 746 0 1], 139, 0, none⟩),
(362, ⟨[o 1208 0 1], 139, 0, none⟩),
(368, ⟨[o 1693 0 1], 139, 0, none⟩),
e 371 139,
e 374 139,
(377, ⟨[o 1705 0 1], 139, 0, none⟩),
e 380 139,
e 383 139,
(386, ⟨[o 1214 0 1], 139, 0, none⟩),
(389, ⟨[o 1695 0 1], 139, 0, none⟩),
(395, ⟨[o 2190 0 1], 139, 0, none⟩),
e 398 139,
e 401 139,
(404, ⟨[o 2202 0 1], 139, 0, none⟩),
e 407 139,
e 410 139,
(413, ⟨[o 1701 0 1], 139, 0, none⟩),
(416, ⟨[o 2192 0 1], 139, 0, none⟩),
e 422 139,
e 425 139,
e 428 139,
(431, ⟨[o 2690 0 1], 139, 0, none⟩),
e 434 139,
e 437 139,
(440, ⟨[o 2198 0 1], 139, 0, none⟩),
e 443 139,
e 446 139,
e 449 139,
e 452 139,
e 455 139,
e 458 139,
e 461 139,
(463, ⟨[.ptr 299 0, .ptr 308 0, .ptr 317 0, .ptr 326 0, .ptr 335 0, .ptr 344 0, .ptr 353 0, .ptr 362 0, .ptr 371 0, .ptr 380 0, .ptr 389 0, .ptr 398 0, .ptr 407 0, .ptr 416 0, .ptr 425 0, .ptr 434 0, .ptr 443 0, .ptr 452 0, .ptr 461 0], 136, 1, none⟩),
e 464 139,
(466, ⟨[.ptr 302 0, .ptr 2912 0, .ptr 320 0, .ptr 329 0, .ptr 2920 0, .ptr 347 0, .ptr 356 0, .ptr 2928 0, .ptr 374 0, .ptr 383 0, .ptr 2936 0, .ptr 401 0, .ptr 410 0, .ptr 2944 0, .ptr 428 0, .ptr 437 0, .ptr 446 0, .ptr 455 0, .ptr 464 0], 136, 1, none⟩),
e 467 139,
(469, ⟨[.ptr 305 0, .ptr 314 0, .ptr 323 0, .ptr 332 0, .ptr 341 0, .ptr 350 0, .ptr 359 0, .ptr 368 0, .ptr 377 0, .ptr 386 0, .ptr 395 0, .ptr 404 0, .ptr 413 0, .ptr 422 0, .ptr 431 0, .ptr 440 0, .ptr 449 0, .ptr 458 0, .ptr 467 0], 136, 1, none⟩),
(471, ⟨[.int .u64 (.ofNat 31)], 224, 1, none⟩),
(732, ⟨[.int .u64 (.ofNat 1)], 224, 1, none⟩),
(738, ⟨[.int .u64 (.ofNat 16)], 224, 1, none⟩),
(740, ⟨[.int .u64 (.ofNat 1)], 224, 1, none⟩),
(746, ⟨[.int .u64 (.ofNat 4)], 224, 1, none⟩),
(1206, ⟨[.int .u64 (.ofNat 128)], 224, 1, none⟩),
(1208, ⟨[.int .u64 (.ofNat 1)], 224, 1, none⟩),
(1214, ⟨[.int .u64 (.ofNat 32)], 224, 1, none⟩),
(1218, ⟨[.int .u64 (.ofNat 64)], 224, 1, none⟩),
(1693, ⟨[.int .u64 (.ofNat 1024)], 224, 1, none⟩),
(1695, ⟨[.int .u64 (.ofNat 1)], 224, 1, none⟩),
(1701, ⟨[.int .u64 (.ofNat 256)], 224, 1, none⟩),
(1705, ⟨[.int .u64 (.ofNat 512)], 224, 1, none⟩),
(2190, ⟨[.int .u64 (.ofNat 8192)], 224, 1, none⟩),
(2192, ⟨[.int .u64 (.ofNat 1)], 224, 1, none⟩),
(2194, ⟨[i 0, i 0, i 0, i 0, i 0], 3, 1, none⟩),
(2198, ⟨[.int .u64 (.ofNat 2048)], 224, 1, none⟩),
(2202, ⟨[.int .u64 (.ofNat 4096)], 224, 1, none⟩),
(2690, ⟨[.int .u64 (.ofNat 32768)], 224, 1, none⟩),
(2911, ⟨[.int .u64 (.ofNat 1)], 224, 1, none⟩),
(2912, ⟨[o 2911 0 1], 139, 0, none⟩),
(2919, ⟨[.int .u64 (.ofNat 1)], 224, 1, none⟩),
(2920, ⟨[o 2919 0 1], 139, 0, none⟩),
(2927, ⟨[.int .u64 (.ofNat 1)], 224, 1, none⟩),
(2928, ⟨[o 2927 0 1], 139, 0, none⟩),
(2935, ⟨[.int .u64 (.ofNat 1)], 224, 1, none⟩),
(2936, ⟨[o 2935 0 1], 139, 0, none⟩),
(2943, ⟨[.int .u64 (.ofNat 1)], 224, 1, none⟩),
(2944, ⟨[o 2943 0 1], 139, 0, none⟩)]
private noncomputable abbrev l5 : Bls := [(3644, ⟨[], 0, 0, some (.map [(0, .agg [i 4, i 0, i 0, i 1, i 0], .c (o 5286 0 1)), (1, .agg [i 4, i 0, i 0, i 1, i 1], .c (o 5301 0 1)), (2, .agg [i 4, i 0, i 0, i 1, i 2], .c (o 5316 0 1)), (3, .agg [i 1, i 1, i 0, i 0, i 0], .c (o 5349 0 1)), (4, .agg [i 5, i 1, i 0, i 0, i 0], .c (o 5354 0 1)), (5, .agg [i 1, i 0, i 0, i 0, i 0], .c (o 5413 0 1)), (6, .agg [i 3, i 1, i 0, i 1, i 0], .c (o 5432 0 1)), (7, .agg [i 3, i 1, i 0, i 1, i 1], .c (o 5451 0 1)), (8, .agg [i 3, i 1, i 0, i 1, i 2], .c (o 5470 0 1)), (9, .agg [i 2, i 1, i 0, i 0, i 0], .c (o 5496 0 1)), (10, .agg [i 5, i 2, i 0, i 0, i 0], .c (o 5501 0 1)), (11, .agg [i 1, i 5, i 0, i 0, i 0], .c (o 5526 0 1)), (12, .agg [i 2, i 2, i 0, i 0, i 0], .c (o 5552 0 1)), (13, .agg [i 5, i 3, i 0, i 0, i 0], .c (o 5557 0 1)), (14, .agg [i 1, i 7, i 0, i 0, i 0], .c (o 5582 0 1)), (15, .agg [i 2, i 3, i 0, i 0, i 0], .c (o 5608 0 1)), (16, .agg [i 5, i 4, i 0, i 0, i 0], .c (o 5613 0 1)), (17, .agg [i 1, i 9, i 0, i 0, i 0], .c (o 5638 0 1)), (18, .agg [i 1, i 11, i 0, i 0, i 0], .c (o 5669 0 1))] 19)⟩),
(3645, ⟨[.map 3644, .md 1 (.ofNat 0) true], 155, 0, none⟩),
(5286, ⟨[i 3, i 1, i 0, i 1, i 0], 116, 5, none⟩),
(5301, ⟨[i 3, i 1, i 0, i 1, i 1], 116, 5, none⟩),
(5316, ⟨[i 3, i 1, i 0, i 1, i 2], 116, 5, none⟩),
(5349, ⟨[i 2, i 1, i 0, i 0, i 0], 116, 5, none⟩),
(5354, ⟨[i 1, i 2, i 0, i 0, i 0], 116, 5, none⟩),
(5413, ⟨[i 5, i 0, i 0, i 0, i 0], 116, 5, none⟩),
(5432, ⟨[i 6, i 0, i 0, i 1, i 0], 116, 5, none⟩),
(5451, ⟨[i 6, i 0, i 0, i 1, i 1], 116, 5, none⟩),
(5470, ⟨[i 6, i 0, i 0, i 1, i 2], 116, 5, none⟩),
(5496, ⟨[i 2, i 2, i 0, i 0, i 0], 116, 5, none⟩),
(5501, ⟨[i 1, i 5, i 0, i 0, i 0], 116, 5, none⟩),
(5526, ⟨[i 5, i 1, i 0, i 0, i 0], 116, 5, none⟩),
(5552, ⟨[i 2, i 3, i 0, i 0, i 0], 116, 5, none⟩),
(5557, ⟨[i 1, i 7, i 0, i 0, i 0], 116, 5, none⟩),
(5582, ⟨[i 5, i 2, i 0, i 0, i 0], 116, 5, none⟩),
(5608, ⟨[i 2, i 4, i 0, i 0, i 0], 116, 5, none⟩),
(5613, ⟨[i 1, i 9, i 0, i 0, i 0], 116, 5, none⟩),
(5638, ⟨[i 5, i 3, i 0, i 0, i 0], 116, 5, none⟩),
(5669, ⟨[i 5, i 4, i 0, i 0, i 0], 116, 5, none⟩)]
private noncomputable def m0 : MM := ⟨[48], l0, 87, [⟨48, 0, [.v (.c (.ptr 12 0))], .v (.c (.nili))⟩]⟩
private theorem m0_k : H0.tbl m0 = true := by kernel_rfl
private noncomputable def h1 : HK := H0.memo m0 m0_k
private noncomputable def m1 : MM := ⟨[155], l1, 178, [⟨155, 0, [.v (.c (.ptr 12 0)), .v (.c (i 0))], .tup [.agg [i 0, i 0, i 0], .c (.bool true)]⟩,
⟨155, 1, [.v (.c (.ptr 12 0)), .v (.c (i 1))], .tup [.agg [i 0, i 0, i 1], .c (.bool true)]⟩,
⟨155, 2, [.v (.c (.ptr 12 0)), .v (.c (i 2))], .tup [.agg [i 0, i 0, i 2], .c (.bool true)]⟩,
⟨155, 3, [.v (.c (.ptr 12 0)), .v (.c (i 3))], .tup [.agg [i 0, i 0, i 3], .c (.bool true)]⟩,
⟨155, 4, [.v (.c (.ptr 12 0)), .v (.c (i 4))], .tup [.agg [i 0, i 0, i 4], .c (.bool true)]⟩,
⟨155, 5, [.v (.c (.ptr 12 0)), .v (.c (i 5))], .tup [.agg [i 1, i 0, i 0], .c (.bool true)]⟩,
⟨155, 6, [.v (.c (.ptr 12 0)), .v (.c (i 6))], .tup [.agg [i 1, i 0, i 1], .c (.bool true)]⟩,
⟨155, 7, [.v (.c (.ptr 12 0)), .v (.c (i 7))], .tup [.agg [i 2, i 0, i 0], .c (.bool true)]⟩,
⟨155, 8, [.v (.c (.ptr 12 0)), .v (.c (i 8))], .tup [.agg [i 2, i 0, i 1], .c (.bool true)]⟩,
⟨155, 9, [.v (.c (.ptr 12 0)), .v (.c (i 9))], .tup [.agg [i 3, i 0, i 0], .c (.bool true)]⟩,
⟨155, 10, [.v (.c (.ptr 12 0)), .v (.c (i 10))], .tup [.agg [i 3, i 0, i 1], .c (.bool true)]⟩,
⟨155, 11, [.v (.c (.ptr 12 0)), .v (.c (i 11))], .tup [.agg [i 4, i 0, i 0], .c (.bool true)]⟩,
⟨155, 12, [.v (.c (.ptr 12 0)), .v (.c (i 12))], .tup [.agg [i 4, i 0, i 1], .c (.bool true)]⟩]⟩
private theorem m1_k : h1.tbl m1 = true := by kernel_rfl
private noncomputable def h2 : HK := h1.memo m1 m1_k
private noncomputable def s1 : RE := ⟨76, [.v (.c (.ptr 12 0))], 87, .v (.c (.ptr 87 0)), l2, 254⟩
private theorem s1_k : h2.srp l0 s1 = true := by kernel_rfl
private noncomputable def h3 : HK := h2.srep _ s1 s1_k
private noncomputable def s2 : RE := ⟨49, [.v (.c (.ptr 12 0)), .v (.c (.snil))], 87, .v (.c (.ptr 298 0)), l3, 2945⟩
private theorem s2_k : h3.rep l0 s2 = true := by kernel_rfl
private noncomputable def h4 : HK := h3.repl _ s2 s2_k
private noncomputable def s3 : RE := ⟨151, [.v (.c (.ptr 12 0)), .v (.c (.ptr 298 0)), .v (.c (i 2))], 3113, .v (.c (.snil)), [], 3233⟩
private theorem s3_k : h4.srp l4 s3 = true := by kernel_rfl
private noncomputable def h5 : HK := h4.srep _ s3 s3_k
private noncomputable def s4 : RE := ⟨151, [.v (.c (.ptr 12 0)), .v (.c (.ptr 298 0)), .v (.c (i 5))], 3267, .v (.c (.snil)), [], 3378⟩
private theorem s4_k : h5.srp l4 s4 = true := by kernel_rfl
private noncomputable def h6 : HK := h5.srep _ s4 s4_k
private noncomputable def s5 : RE := ⟨151, [.v (.c (.ptr 12 0)), .v (.c (.ptr 298 0)), .v (.c (i 7))], 3394, .v (.c (.snil)), [], 3496⟩
private theorem s5_k : h6.srp l4 s5 = true := by kernel_rfl
private noncomputable def h7 : HK := h6.srep _ s5 s5_k
private noncomputable def s6 : RE := ⟨151, [.v (.c (.ptr 12 0)), .v (.c (.ptr 298 0)), .v (.c (i 9))], 3512, .v (.c (.snil)), [], 3605⟩
private theorem s6_k : h7.srp l4 s6 = true := by kernel_rfl
private noncomputable def h8 : HK := h7.srep _ s6 s6_k
private noncomputable def s7 : RE := ⟨85, [.v (.c (.ptr 12 0)), .v (.c (.ptr 298 0)), .v (.c (i 0))], 3647, .v (.c (o 3727 0 3)), [(3727, ⟨[i 1, i 0, i 1, i 1, i 1, i 2], 114, 2, none⟩)], 3929⟩
private theorem s7_k : h8.srp l4 s7 = true := by kernel_rfl
private noncomputable def h9 : HK := h8.srep _ s7 s7_k
private noncomputable def s8 : RE := ⟨86, [.v (.c (.ptr 12 0)), .v (.c (.ptr 298 0)), .v (.c (i 0))], 3931, .v (.c (o 4011 0 3)), [(4011, ⟨[i 1, i 0, i 1, i 1, i 1, i 2], 114, 2, none⟩)], 4078⟩
private theorem s8_k : h9.srp l4 s8 = true := by kernel_rfl
private noncomputable def h10 : HK := h9.srep _ s8 s8_k
private noncomputable def s9 : RE := ⟨85, [.v (.c (.ptr 12 0)), .v (.c (.ptr 298 0)), .v (.c (i 1))], 4080, .v (.c (.snil)), [], 4296⟩
private theorem s9_k : h10.srp l4 s9 = true := by kernel_rfl
private noncomputable def h11 : HK := h10.srep _ s9 s9_k
private noncomputable def s10 : RE := ⟨86, [.v (.c (.ptr 12 0)), .v (.c (.ptr 298 0)), .v (.c (i 1))], 4298, .v (.c (.snil)), [], 4406⟩
private theorem s10_k : h11.srp l4 s10 = true := by kernel_rfl
private noncomputable def h12 : HK := h11.srep _ s10 s10_k
private noncomputable def s11 : RE := ⟨85, [.v (.c (.ptr 12 0)), .v (.c (.ptr 298 0)), .v (.c (i 2))], 4408, .v (.c (.snil)), [], 4606⟩
private theorem s11_k : h12.srp l4 s11 = true := by kernel_rfl
private noncomputable def h13 : HK := h12.srep _ s11 s11_k
private noncomputable def s12 : RE := ⟨86, [.v (.c (.ptr 12 0)), .v (.c (.ptr 298 0)), .v (.c (i 2))], 4608, .v (.c (.snil)), [], 4707⟩
private theorem s12_k : h13.srp l4 s12 = true := by kernel_rfl
private noncomputable def h14 : HK := h13.srep _ s12 s12_k
private noncomputable def s13 : RE := ⟨85, [.v (.c (.ptr 12 0)), .v (.c (.ptr 298 0)), .v (.c (i 3))], 4709, .v (.c (.snil)), [], 4889⟩
private theorem s13_k : h14.srp l4 s13 = true := by kernel_rfl
private noncomputable def h15 : HK := h14.srep _ s13 s13_k
private noncomputable def s14 : RE := ⟨86, [.v (.c (.ptr 12 0)), .v (.c (.ptr 298 0)), .v (.c (i 3))], 4891, .v (.c (.snil)), [], 4981⟩
private theorem s14_k : h15.srp l4 s14 = true := by kernel_rfl
private noncomputable def h16 : HK := h15.srep _ s14 s14_k
private noncomputable def s15 : RE := ⟨85, [.v (.c (.ptr 12 0)), .v (.c (.ptr 298 0)), .v (.c (i 4))], 4983, .v (.c (.snil)), [], 5145⟩
private theorem s15_k : h16.srp l4 s15 = true := by kernel_rfl
private noncomputable def h17 : HK := h16.srep _ s15 s15_k
private noncomputable def s16 : RE := ⟨86, [.v (.c (.ptr 12 0)), .v (.c (.ptr 298 0)), .v (.c (i 4))], 5147, .v (.c (.snil)), [], 5228⟩
private theorem s16_k : h17.srp l4 s16 = true := by kernel_rfl
private noncomputable def h18 : HK := h17.srep _ s16 s16_k
private noncomputable def s17 : RE := ⟨50, [.v (.c (.ptr 12 0)), .v (.c (.ptr 298 0))], 2945, .v (.c (.ptr 3645 0)), l5, 5671⟩
private theorem s17_k : h18.rep l4 s17 = true := by kernel_rfl
private noncomputable def h19 : HK := h18.repl _ s17 s17_k
theorem TopNilReturn_3_t_run : isBool true (runW h19.K 13 [mi 8 3, ab true] s0) = true := by kernel_rfl
theorem TopNilReturn_3_t_law {args : Array Value} (ha : VAs (fun _ => none) [mi 8 3, ab true] args.toList) (w : World) (hT : Tab w) :
    Calls Tryz.prog 13 args w fun e w' => Below w.heap.size w w' ∧ e = .returned (.bool true) := h19.law TopNilReturn_3_t_run ha w hT
end Go.Proofs.YteajpblmbmncdaaGreatDoor
