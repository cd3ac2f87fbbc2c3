/- Tables of calls, and a run that uses them. -/
import Derived.Test.YteajpblmbmncdaaGreatDoorLn
namespace Go.Proofs.YteajpblmbmncdaaGreatDoor
open Go Go.RowKit Ev
set_option maxRecDepth 100000
set_option linter.unusedVariables false
private noncomputable abbrev i (n : Nat) : CV := .int .i64 (.ofNat n)
private noncomputable abbrev o (b a n : Nat) : CV := .slice b a n (.opn 0)
private noncomputable abbrev f (b a n : Nat) : CV := .slice b a n (.fix n)
private noncomputable abbrev e (k t : Nat) : Nat × BK := (k, ⟨[.snil], t, 0, none⟩)
private noncomputable abbrev l0 : Bls := [(1, ⟨[i 0, i 0, i 0, i 0, i 1, i 0], 69, 0, none⟩),
(2, ⟨[f 1 0 3], 47, 0, none⟩),
(4, ⟨[i 1, i 0], 69, 0, none⟩),
(5, ⟨[i 0, i 0], 69, 0, none⟩),
(7, ⟨[i 1, i 0], 69, 0, none⟩),
(9, ⟨[.snil, i 0, i 0, f 4 0 1, i 0, i 0, f 5 0 1, i 0, i 0, f 7 0 1, i 1, i 0], 72, 0, none⟩),
(10, ⟨[i 0], 3, 0, none⟩),
(11, ⟨[f 10 0 1], 74, 0, none⟩),
(12, ⟨[f 2 0 1, f 9 0 4, f 11 0 1, .snil, o 68 0 4, i 0], 57, 0, none⟩),
(23, ⟨[i 0, i 0, i 1, i 0, i 1, i 0], 69, 2, none⟩),
(24, ⟨[o 33 0 4, i 3, i 0, i 0, i 0], 46, 0, none⟩),
(29, ⟨[i 1], 3, 0, none⟩),
(33, ⟨[i 1, i 0, i 0, i 0, i 1, .snil, i 5, i 1, i 0, i 0, i 0, .snil, i 12, i 2, i 0, i 0, i 1, f 29 0 1, i 8, i 0, i 2, i 0, i 0, .snil], 29, 6, none⟩),
(39, ⟨[i 1, i 0, i 1, i 0], 69, 2, none⟩),
(40, ⟨[o 46 0 1, i 3, i 1, i 0, i 0], 46, 0, none⟩),
(43, ⟨[i 0], 3, 0, none⟩),
(46, ⟨[i 12, i 1, i 0, i 0, i 2, f 43 0 1], 29, 6, none⟩),
(52, ⟨[i 1, i 0, i 1, i 0], 69, 2, none⟩),
(53, ⟨[o 59 0 1, i 3, i 1, i 0, i 0], 46, 0, none⟩),
(56, ⟨[i 0], 3, 0, none⟩),
(59, ⟨[i 12, i 1, i 0, i 0, i 3, f 56 0 1], 29, 6, none⟩),
(65, ⟨[i 1, i 0, i 1, i 0], 69, 2, none⟩),
(66, ⟨[o 71 0 1, i 3, i 1, i 0, i 0], 46, 0, none⟩),
(68, ⟨[i 0, o 23 0 3, f 24 0 1, i 3, o 39 0 2, f 40 0 1, i 3, o 52 0 2, f 53 0 1, i 3, o 65 0 2, f 66 0 1], 50, 3, none⟩),
(71, ⟨[i 4, i 1, i 0, i 0, i 0, .snil], 29, 6, none⟩)]
private noncomputable abbrev l1 : Bls := [(12, ⟨[f 2 0 1, f 9 0 4, f 11 0 1, .snil, o 68 0 4, i 0], 57, 0, none⟩),
(24, ⟨[o 33 0 4, i 3, i 0, i 0, i 0], 46, 0, none⟩),
(40, ⟨[o 46 0 1, i 3, i 1, i 0, i 0], 46, 0, none⟩),
(53, ⟨[o 59 0 1, i 3, i 1, i 0, i 0], 46, 0, none⟩),
(66, ⟨[o 71 0 1, i 3, i 1, i 0, i 0], 46, 0, none⟩),
(68, ⟨[i 0, o 23 0 3, f 24 0 1, i 3, o 39 0 2, f 40 0 1, i 3, o 52 0 2, f 53 0 1, i 3, o 65 0 2, f 66 0 1], 50, 3, none⟩)]
private noncomputable abbrev l2 : Bls := [(74, ⟨[o 120 0 4, o 124 0 4, o 169 0 1, o 158 0 1, o 160 0 1, i 16], 230, 0, none⟩),
(82, ⟨[i 0, i 1, i 2], 3, 1, none⟩),
(94, ⟨[i 4, i 5], 3, 1, none⟩),
(106, ⟨[i 7, i 8], 3, 1, none⟩),
(118, ⟨[i 10, i 11], 3, 1, none⟩),
(120, ⟨[o 82 0 3, o 94 0 2, o 106 0 2, o 118 0 2], 27, 1, none⟩),
(124, ⟨[i 3, i 6, i 9, i 12], 3, 1, none⟩),
(158, ⟨[i 1], 3, 1, none⟩),
(160, ⟨[i 0], 3, 1, none⟩),
(167, ⟨[i 13, i 14, i 15], 3, 1, none⟩),
(169, ⟨[o 167 0 3], 27, 1, none⟩)]
private noncomputable abbrev l3 : Bls := [(74, ⟨[o 120 0 4, o 124 0 4, o 169 0 1, o 158 0 1, o 160 0 1, i 16], 230, 0, none⟩),
(82, ⟨[i 0, i 1, i 2], 3, 1, none⟩),
(94, ⟨[i 4, i 5], 3, 1, none⟩),
(106, ⟨[i 7, i 8], 3, 1, none⟩),
(118, ⟨[i 10, i 11], 3, 1, none⟩),
(120, ⟨[o 82 0 3, o 94 0 2, o 106 0 2, o 118 0 2], 27, 1, none⟩),
(124, ⟨[i 3, i 6, i 9, i 12], 3, 1, none⟩),
(158, ⟨[i 1], 3, 1, none⟩),
(160, ⟨[i 0], 3, 1, none⟩),
(167, ⟨[i 13, i 14, i 15], 3, 1, none⟩),
(169, ⟨[o 167 0 3], 27, 1, none⟩),
(215, ⟨[o 247 0 16], 233, 0, none⟩),
(247, ⟨[i 0, i 1, i 2, i 3, i 4, i 5, i 6, i 7, i 8, i 9, i 10, i 11, i 12, i 13, i 14, i 15], 3, 1, none⟩),
(248, ⟨[.snil, .snil, .snil, .snil, .snil, .snil, .snil, .snil, .snil, .snil, .snil, .snil, .snil, .snil, .snil, .snil], 238, 0, none⟩),
(249, ⟨[o 399 0 1], 139, 0, none⟩),
(250, ⟨[], 0, 0, some (.map [(0, .agg [i 2, i 1], .c (.bool true)), (1, .agg [i 5, i 2], .c (.bool true)), (2, .agg [i 7, i 3], .c (.bool true))] 3)⟩),
(251, ⟨[], 0, 0, some (.map [] 4)⟩),
(252, ⟨[.snil, o 1469 0 0, .map 251, i 4], 237, 0, none⟩),
(253, ⟨[.ptr 12 0, .ptr 74 0, .ptr 215 0, o 391 0 16, o 394 0 16, o 397 0 16, f 248 0 16, .ptr 249 0, .map 250, .ptr 252 0], 145, 0, none⟩),
e 254 139,
e 257 139,
e 260 139,
(263, ⟨[o 628 0 1], 139, 0, none⟩),
(269, ⟨[o 634 0 1], 139, 0, none⟩),
e 272 139,
e 275 139,
e 278 139,
e 281 139,
e 284 139,
e 287 139,
(290, ⟨[o 636 0 1], 139, 0, none⟩),
(296, ⟨[o 1040 0 1], 139, 0, none⟩),
e 299 139,
e 302 139,
(305, ⟨[o 1052 0 1], 139, 0, none⟩),
e 308 139,
e 311 139,
(314, ⟨[o 642 0 1], 139, 0, none⟩),
(317, ⟨[o 1042 0 1], 139, 0, none⟩),
(323, ⟨[o 1465 0 1], 139, 0, none⟩),
e 326 139,
e 329 139,
(332, ⟨[o 1477 0 1], 139, 0, none⟩),
e 335 139,
e 338 139,
(341, ⟨[o 1048 0 1], 139, 0, none⟩),
(344, ⟨[o 1467 0 1], 139, 0, none⟩),
e 350 139,
e 353 139,
e 356 139,
(359, ⟨[o 1893 0 1], 139, 0, none⟩),
e 362 139,
e 365 139,
(368, ⟨[o 1473 0 1], 139, 0, none⟩),
e 371 139,
e 374 139,
e 377 139,
e 380 139,
e 383 139,
e 386 139,
e 389 139,
(391, ⟨[.ptr 254 0, .ptr 263 0, .ptr 272 0, .ptr 281 0, .ptr 290 0, .ptr 299 0, .ptr 308 0, .ptr 317 0, .ptr 326 0, .ptr 335 0, .ptr 344 0, .ptr 353 0, .ptr 362 0, .ptr 371 0, .ptr 380 0, .ptr 389 0], 136, 1, none⟩),
e 392 139,
(394, ⟨[.ptr 257 0, .ptr 2056 0, .ptr 275 0, .ptr 284 0, .ptr 2064 0, .ptr 302 0, .ptr 311 0, .ptr 2072 0, .ptr 329 0, .ptr 338 0, .ptr 2080 0, .ptr 356 0, .ptr 365 0, .ptr 374 0, .ptr 383 0, .ptr 392 0], 136, 1, none⟩),
e 395 139,
(397, ⟨[.ptr 260 0, .ptr 269 0, .ptr 278 0, .ptr 287 0, .ptr 296 0, .ptr 305 0, .ptr 314 0, .ptr 323 0, .ptr 332 0, .ptr 341 0, .ptr 350 0, .ptr 359 0, .ptr 368 0, .ptr 377 0, .ptr 386 0, .ptr 395 0], 136, 1, none⟩),
(399, ⟨[.int .u64 (.ofNat 15)], 224, 1, none⟩),
(628, ⟨[.int .u64 (.ofNat 1)], 224, 1, none⟩),
(634, ⟨[.int .u64 (.ofNat 16)], 224, 1, none⟩),
(636, ⟨[.int .u64 (.ofNat 1)], 224, 1, none⟩),
(642, ⟨[.int .u64 (.ofNat 4)], 224, 1, none⟩),
(1040, ⟨[.int .u64 (.ofNat 128)], 224, 1, none⟩),
(1042, ⟨[.int .u64 (.ofNat 1)], 224, 1, none⟩),
(1048, ⟨[.int .u64 (.ofNat 32)], 224, 1, none⟩),
(1052, ⟨[.int .u64 (.ofNat 64)], 224, 1, none⟩),
(1465, ⟨[.int .u64 (.ofNat 1024)], 224, 1, none⟩),
(1467, ⟨[.int .u64 (.ofNat 1)], 224, 1, none⟩),
(1469, ⟨[i 0, i 0, i 0, i 0], 3, 1, none⟩),
(1473, ⟨[.int .u64 (.ofNat 256)], 224, 1, none⟩),
(1477, ⟨[.int .u64 (.ofNat 512)], 224, 1, none⟩),
(1893, ⟨[.int .u64 (.ofNat 4096)], 224, 1, none⟩),
(2055, ⟨[.int .u64 (.ofNat 1)], 224, 1, none⟩),
(2056, ⟨[o 2055 0 1], 139, 0, none⟩),
(2063, ⟨[.int .u64 (.ofNat 1)], 224, 1, none⟩),
(2064, ⟨[o 2063 0 1], 139, 0, none⟩),
(2071, ⟨[.int .u64 (.ofNat 1)], 224, 1, none⟩),
(2072, ⟨[o 2071 0 1], 139, 0, none⟩),
(2079, ⟨[.int .u64 (.ofNat 1)], 224, 1, none⟩),
(2080, ⟨[o 2079 0 1], 139, 0, none⟩)]
private noncomputable abbrev l4 : Bls := [(1, ⟨[i 0, i 0, i 0, i 0, i 1, i 0], 69, 0, none⟩),
(2, ⟨[f 1 0 3], 47, 0, none⟩),
(4, ⟨[i 1, i 0], 69, 0, none⟩),
(5, ⟨[i 0, i 0], 69, 0, none⟩),
(7, ⟨[i 1, i 0], 69, 0, none⟩),
(9, ⟨[.snil, i 0, i 0, f 4 0 1, i 0, i 0, f 5 0 1, i 0, i 0, f 7 0 1, i 1, i 0], 72, 0, none⟩),
(10, ⟨[i 0], 3, 0, none⟩),
(11, ⟨[f 10 0 1], 74, 0, none⟩),
(12, ⟨[f 2 0 1, f 9 0 4, f 11 0 1, .snil, o 68 0 4, i 0], 57, 0, none⟩),
(23, ⟨[i 0, i 0, i 1, i 0, i 1, i 0], 69, 2, none⟩),
(24, ⟨[o 33 0 4, i 3, i 0, i 0, i 0], 46, 0, none⟩),
(29, ⟨[i 1], 3, 0, none⟩),
(33, ⟨[i 1, i 0, i 0, i 0, i 1, .snil, i 5, i 1, i 0, i 0, i 0, .snil, i 12, i 2, i 0, i 0, i 1, f 29 0 1, i 8, i 0, i 2, i 0, i 0, .snil], 29, 6, none⟩),
(39, ⟨[i 1, i 0, i 1, i 0], 69, 2, none⟩),
(40, ⟨[o 46 0 1, i 3, i 1, i 0, i 0], 46, 0, none⟩),
(43, ⟨[i 0], 3, 0, none⟩),
(46, ⟨[i 12, i 1, i 0, i 0, i 2, f 43 0 1], 29, 6, none⟩),
(52, ⟨[i 1, i 0, i 1, i 0], 69, 2, none⟩),
(53, ⟨[o 59 0 1, i 3, i 1, i 0, i 0], 46, 0, none⟩),
(56, ⟨[i 0], 3, 0, none⟩),
(59, ⟨[i 12, i 1, i 0, i 0, i 3, f 56 0 1], 29, 6, none⟩),
(65, ⟨[i 1, i 0, i 1, i 0], 69, 2, none⟩),
(66, ⟨[o 71 0 1, i 3, i 1, i 0, i 0], 46, 0, none⟩),
(68, ⟨[i 0, o 23 0 3, f 24 0 1, i 3, o 39 0 2, f 40 0 1, i 3, o 52 0 2, f 53 0 1, i 3, o 65 0 2, f 66 0 1], 50, 3, none⟩),
(71, ⟨[i 4, i 1, i 0, i 0, i 0, .snil], 29, 6, none⟩),
(74, ⟨[o 120 0 4, o 124 0 4, o 169 0 1, o 158 0 1, o 160 0 1, i 16], 230, 0, none⟩),
(82, ⟨[i 0, i 1, i 2], 3, 1, none⟩),
(94, ⟨[i 4, i 5], 3, 1, none⟩),
(106, ⟨[i 7, i 8], 3, 1, none⟩),
(118, ⟨[i 10, i 11], 3, 1, none⟩),
(120, ⟨[o 82 0 3, o 94 0 2, o 106 0 2, o 118 0 2], 27, 1, none⟩),
(124, ⟨[i 3, i 6, i 9, i 12], 3, 1, none⟩),
(158, ⟨[i 1], 3, 1, none⟩),
(160, ⟨[i 0], 3, 1, none⟩),
(167, ⟨[i 13, i 14, i 15], 3, 1, none⟩),
(169, ⟨[o 167 0 3], 27, 1, none⟩),
(215, ⟨[o 247 0 16], 233, 0, none⟩),
(247, ⟨[i 0, i 1, i 2, i 3, i 4, i 5, i 6, i 7, i 8, i 9, i 10, i 11, i 12, i 13, i 14, i 15], 3, 1, none⟩),
(248, ⟨[.snil, .snil, .snil, .snil, .snil, .snil, .snil, .snil, .snil, .snil, .snil, .snil, .snil, .snil, .snil, .snil], 238, 0, none⟩),
(249, ⟨[o 399 0 1], 139, 0, none⟩),
(250, ⟨[], 0, 0, some (.map [(0, .agg [i 2, i 1], .c (.bool true)), (1, .agg [i 5, i 2], .c (.bool true)), (2, .agg [i 7, i 3], .c (.bool true))] 3)⟩),
(251, ⟨[], 0, 0, some (.map [] 4)⟩),
(252, ⟨[.snil, o 1469 0 0, .map 251, i 4], 237, 0, none⟩),
(253, ⟨[.ptr 12 0, .ptr 74 0, .ptr 215 0, o 391 0 16, o 394 0 16, o 397 0 16, f 248 0 16, .ptr 249 0, .map 250, .ptr 252 0], 145, 0, none⟩),
e 254 139,
e 257 139,
e 260 139,
(263, ⟨[o 628 0 1], 139, 0, none⟩),
(269, ⟨[o 634 0 1], 139, 0, none⟩),
e 272 139,
e 275 139,
e 278 139,
e 281 139,
e 284 139,
e 287 139,
(290, ⟨[o 636 0 1], 139, 0, none⟩),
(296, ⟨[o 1040 0 1], 139, 0, none⟩),
e 299 139,
e 302 139,
(305, ⟨[o 1052 0 1], 139, 0, none⟩),
e 308 139,
e 311 139,
(314, ⟨[o 642 0 1], 139, 0, none⟩),
(317, ⟨[o 1042 0 1], 139, 0, none⟩),
(323, ⟨[o 1465 0 1], 139, 0, none⟩),
e 326 139,
e 329 139,
(332, ⟨[o 1477 0 1], 139, 0, none⟩),
e 335 139,
e 338 139,
(341, ⟨[o 1048 0 1], 139, 0, none⟩),
(344, ⟨[o 1467 0 1], 139, 0, none⟩),
e 350 139,
e 353 139,
e 356 139,
(359, ⟨[o 1893 0 1], 139, 0, none⟩),
e 362 139,
e 365 139,
(368, ⟨[o 1473 0 1], 139, 0, none⟩),
e 371 139,
e 374 139,
e 377 139,
e 380 139,
e 383 139,
e 386 139,
e 389 139,
(391, ⟨[.ptr 254 0, .ptr 263 0, .ptr 272 0, .ptr 281 0, .ptr 290 0, .ptr 299 0, .ptr 308 0, .ptr 317 0, .ptr 326 0, .ptr 335 0, .ptr 344 0, .ptr 353 0, .ptr 362 0, .ptr 371 0, .ptr 380 0, .ptr 389 0], 136, 1, none⟩),
e 392 139,
(394, ⟨[.ptr 257 0, .ptr 2056 0, .ptr 275 0, .ptr 284 0, .ptr 2064 0, .ptr 302 0, .ptr 311 0, .ptr 2072 0, .ptr 329 0, .ptr 338 0, .ptr 2080 0, .ptr 356 0, .ptr 365 0, .ptr 374 0, .ptr 383 0, .ptr 392 0], 136, 1, none⟩),
e 395 139,
(397, ⟨[.ptr 260 0, .ptr 269 0, .ptr 278 0, .ptr 287 0, .ptr 296 0, .ptr 305 0, .ptr 314 0, .ptr 323 0, .ptr 332 0, .ptr 341 0, .ptr 350 0, .ptr 359 0, .ptr 368 0, .ptr 377 0, .ptr 386 0, .ptr 395 0], 136, 1, none⟩),
(399, ⟨[.int .u64 (.ofNat 15)], 224, 1, none⟩),
(628, ⟨[.int .u64 (.ofNat 1)], 224, 1, none⟩),
(634, ⟨[.int .u64 (.ofNat 16)], 224, 1, none⟩),
(636, ⟨[.int .u64 (.ofNat 1)], 224, 1, none⟩),
(642, ⟨[.int .u64 (.ofNat 4)], 224, 1, none⟩),
(1040, ⟨[.int .u64 (.ofNat 128)], 224, 1, none⟩),
(1042, ⟨[.int .u64 (.ofNat 1)], 224, 1, none⟩),
(1048, ⟨[.int .u64 (.ofNat 32)], 224, 1, none⟩),
(1052, ⟨[.int .u64 (.ofNat 64)], 224, 1, none⟩),
(1465, ⟨[.int .u64 (.ofNat 1024)], 224, 1, none⟩),
(1467, ⟨[.int .u64 (.ofNat 1)], 224, 1, none⟩),
(1469, ⟨[i 0, i 0, i 0, i 0], 3, 1, none⟩),
(1473, ⟨[.int .u64 (.ofNat 256)], 224, 1, none⟩),
(1477, ⟨[.int .u64 (.ofNat 512)], 224, 1, none⟩),
(1893, ⟨[.int .u64 (.ofNat 4096)], 224, 1, none⟩),
(2055, ⟨[.int .u64 (.ofNat 1)], 224, 1, none⟩),
(2056, ⟨[o 2055 0 1], 139, 0, none⟩),
(2063, ⟨[.int .u64 (.ofNat 1)], 224, 1, none⟩),
(2064, ⟨[o 2063 0 1], 139, 0, none⟩),
(2071, ⟨[.int .u64 (.ofNat 1)], 224, 1, none⟩),
(2072, ⟨[o 2071 0 1], 139, 0, none⟩),
(2079, ⟨[.int .u64 (.ofNat 1)], 224, 1, none⟩),
(2080, ⟨[o 2079 0 1], 139, 0, none⟩)]
private noncomputable abbrev l5 : Bls := [(2591, ⟨[], 0, 0, some (.map [(0, .agg [i 4, i 0, i 0, i 1, i 0], .c (o 3754 0 1)), (1, .agg [i 4, i 0, i 0, i 1, i 1], .c (o 3769 0 1)), (2, .agg [i 4, i 0, i 0, i 1, i 2], .c (o 3784 0 1)), (3, .agg [i 1, i 1, i 0, i 0, i 0], .c (o 3816 0 1)), (4, .agg [i 5, i 1, i 0, i 0, i 0], .c (o 3821 0 1)), (5, .agg [i 1, i 0, i 0, i 0, i 0], .c (o 3880 0 1)), (6, .agg [i 3, i 1, i 0, i 1, i 0], .c (o 3899 0 1)), (7, .agg [i 3, i 1, i 0, i 1, i 1], .c (o 3918 0 1)), (8, .agg [i 3, i 1, i 0, i 1, i 2], .c (o 3937 0 1)), (9, .agg [i 2, i 1, i 0, i 0, i 0], .c (o 3962 0 1)), (10, .agg [i 5, i 2, i 0, i 0, i 0], .c (o 3967 0 1)), (11, .agg [i 1, i 5, i 0, i 0, i 0], .c (o 3992 0 1)), (12, .agg [i 2, i 2, i 0, i 0, i 0], .c (o 4017 0 1)), (13, .agg [i 5, i 3, i 0, i 0, i 0], .c (o 4022 0 1)), (14, .agg [i 1, i 7, i 0, i 0, i 0], .c (o 4047 0 1)), (15, .agg [i 1, i 9, i 0, i 0, i 0], .c (o 4078 0 1))] 16)⟩),
(2592, ⟨[.map 2591, .md 1 (.ofNat 0) true], 155, 0, none⟩),
(3754, ⟨[i 3, i 1, i 0, i 1, i 0], 116, 5, none⟩),
(3769, ⟨[i 3, i 1, i 0, i 1, i 1], 116, 5, none⟩),
(3784, ⟨[i 3, i 1, i 0, i 1, i 2], 116, 5, none⟩),
(3816, ⟨[i 2, i 1, i 0, i 0, i 0], 116, 5, none⟩),
(3821, ⟨[i 1, i 2, i 0, i 0, i 0], 116, 5, none⟩),
(3880, ⟨[i 5, i 0, i 0, i 0, i 0], 116, 5, none⟩),
(3899, ⟨[i 6, i 0, i 0, i 1, i 0], 116, 5, none⟩),
(3918, ⟨[i 6, i 0, i 0, i 1, i 1], 116, 5, none⟩),
(3937, ⟨[i 6, i 0, i 0, i 1, i 2], 116, 5, none⟩),
(3962, ⟨[i 2, i 2, i 0, i 0, i 0], 116, 5, none⟩),
(3967, ⟨[i 1, i 5, i 0, i 0, i 0], 116, 5, none⟩),
(3992, ⟨[i 5, i 1, i 0, i 0, i 0], 116, 5, none⟩),
(4017, ⟨[i 2, i 3, i 0, i 0, i 0], 116, 5, none⟩),
(4022, ⟨[i 1, i 7, i 0, i 0, i 0], 116, 5, none⟩),
(4047, ⟨[i 5, i 2, i 0, i 0, i 0], 116, 5, none⟩),
(4078, ⟨[i 5, i 3, i 0, i 0, i 0], 116, 5, none⟩)]
private noncomputable def m0 : MM := ⟨[48], l0, 74, [⟨48, 0, [.v (.c (.ptr 12 0))], .v (.c (.nili))⟩]⟩
private theorem m0_k : H0.tbl m0 = true := by kernel_rfl
private noncomputable def h1 : HK := H0.memo m0 m0_k
private noncomputable def m1 : MM := ⟨[155], l1, 149, [⟨155, 0, [.v (.c (.ptr 12 0)), .v (.c (i 0))], .tup [.agg [i 0, i 0, i 0], .c (.bool true)]⟩,
⟨155, 1, [.v (.c (.ptr 12 0)), .v (.c (i 1))], .tup [.agg [i 0, i 0, i 1], .c (.bool true)]⟩,
⟨155, 2, [.v (.c (.ptr 12 0)), .v (.c (i 2))], .tup [.agg [i 0, i 0, i 2], .c (.bool true)]⟩,
⟨155, 3, [.v (.c (.ptr 12 0)), .v (.c (i 3))], .tup [.agg [i 0, i 0, i 3], .c (.bool true)]⟩,
⟨155, 4, [.v (.c (.ptr 12 0)), .v (.c (i 4))], .tup [.agg [i 0, i 0, i 4], .c (.bool true)]⟩,
⟨155, 5, [.v (.c (.ptr 12 0)), .v (.c (i 5))], .tup [.agg [i 1, i 0, i 0], .c (.bool true)]⟩,
⟨155, 6, [.v (.c (.ptr 12 0)), .v (.c (i 6))], .tup [.agg [i 1, i 0, i 1], .c (.bool true)]⟩,
⟨155, 7, [.v (.c (.ptr 12 0)), .v (.c (i 7))], .tup [.agg [i 2, i 0, i 0], .c (.bool true)]⟩,
⟨155, 8, [.v (.c (.ptr 12 0)), .v (.c (i 8))], .tup [.agg [i 2, i 0, i 1], .c (.bool true)]⟩,
⟨155, 9, [.v (.c (.ptr 12 0)), .v (.c (i 9))], .tup [.agg [i 3, i 0, i 0], .c (.bool true)]⟩,
⟨155, 10, [.v (.c (.ptr 12 0)), .v (.c (i 10))], .tup [.agg [i 3, i 0, i 1], .c (.bool true)]⟩]⟩
private theorem m1_k : h1.tbl m1 = true := by kernel_rfl
private noncomputable def h2 : HK := h1.memo m1 m1_k
private noncomputable def s1 : RE := ⟨76, [.v (.c (.ptr 12 0))], 74, .v (.c (.ptr 74 0)), l2, 215⟩
private theorem s1_k : h2.srp l0 s1 = true := by kernel_rfl
private noncomputable def h3 : HK := h2.srep _ s1 s1_k
private noncomputable def s2 : RE := ⟨49, [.v (.c (.ptr 12 0)), .v (.c (.snil))], 74, .v (.c (.ptr 253 0)), l3, 2081⟩
private theorem s2_k : h3.rep l0 s2 = true := by kernel_rfl
private noncomputable def h4 : HK := h3.repl _ s2 s2_k
private noncomputable def s3 : RE := ⟨151, [.v (.c (.ptr 12 0)), .v (.c (.ptr 253 0)), .v (.c (i 2))], 2229, .v (.c (.snil)), [], 2329⟩
private theorem s3_k : h4.srp l4 s3 = true := by kernel_rfl
private noncomputable def h5 : HK := h4.srep _ s3 s3_k
private noncomputable def s4 : RE := ⟨151, [.v (.c (.ptr 12 0)), .v (.c (.ptr 253 0)), .v (.c (i 5))], 2363, .v (.c (.snil)), [], 2454⟩
private theorem s4_k : h5.srp l4 s4 = true := by kernel_rfl
private noncomputable def h6 : HK := h5.srep _ s4 s4_k
private noncomputable def s5 : RE := ⟨151, [.v (.c (.ptr 12 0)), .v (.c (.ptr 253 0)), .v (.c (i 7))], 2470, .v (.c (.snil)), [], 2552⟩
private theorem s5_k : h6.srp l4 s5 = true := by kernel_rfl
private noncomputable def h7 : HK := h6.srep _ s5 s5_k
private noncomputable def s6 : RE := ⟨85, [.v (.c (.ptr 12 0)), .v (.c (.ptr 253 0)), .v (.c (i 0))], 2594, .v (.c (o 2665 0 3)), [(2665, ⟨[i 1, i 0, i 1, i 1, i 1, i 2], 114, 2, none⟩)], 2838⟩
private theorem s6_k : h7.srp l4 s6 = true := by kernel_rfl
private noncomputable def h8 : HK := h7.srep _ s6 s6_k
private noncomputable def s7 : RE := ⟨86, [.v (.c (.ptr 12 0)), .v (.c (.ptr 253 0)), .v (.c (i 0))], 2840, .v (.c (o 2911 0 3)), [(2911, ⟨[i 1, i 0, i 1, i 1, i 1, i 2], 114, 2, none⟩)], 2968⟩
private theorem s7_k : h8.srp l4 s7 = true := by kernel_rfl
private noncomputable def h9 : HK := h8.srep _ s7 s7_k
private noncomputable def s8 : RE := ⟨85, [.v (.c (.ptr 12 0)), .v (.c (.ptr 253 0)), .v (.c (i 1))], 2970, .v (.c (.snil)), [], 3148⟩
private theorem s8_k : h9.srp l4 s8 = true := by kernel_rfl
private noncomputable def h10 : HK := h9.srep _ s8 s8_k
private noncomputable def s9 : RE := ⟨86, [.v (.c (.ptr 12 0)), .v (.c (.ptr 253 0)), .v (.c (i 1))], 3150, .v (.c (.snil)), [], 3239⟩
private theorem s9_k : h10.srp l4 s9 = true := by kernel_rfl
private noncomputable def h11 : HK := h10.srep _ s9 s9_k
private noncomputable def s10 : RE := ⟨85, [.v (.c (.ptr 12 0)), .v (.c (.ptr 253 0)), .v (.c (i 2))], 3241, .v (.c (.snil)), [], 3401⟩
private theorem s10_k : h11.srp l4 s10 = true := by kernel_rfl
private noncomputable def h12 : HK := h11.srep _ s10 s10_k
private noncomputable def s11 : RE := ⟨86, [.v (.c (.ptr 12 0)), .v (.c (.ptr 253 0)), .v (.c (i 2))], 3403, .v (.c (.snil)), [], 3483⟩
private theorem s11_k : h12.srp l4 s11 = true := by kernel_rfl
private noncomputable def h13 : HK := h12.srep _ s11 s11_k
private noncomputable def s12 : RE := ⟨85, [.v (.c (.ptr 12 0)), .v (.c (.ptr 253 0)), .v (.c (i 3))], 3485, .v (.c (.snil)), [], 3627⟩
private theorem s12_k : h13.srp l4 s12 = true := by kernel_rfl
private noncomputable def h14 : HK := h13.srep _ s12 s12_k
private noncomputable def s13 : RE := ⟨86, [.v (.c (.ptr 12 0)), .v (.c (.ptr 253 0)), .v (.c (i 3))], 3629, .v (.c (.snil)), [], 3700⟩
private theorem s13_k : h14.srp l4 s13 = true := by kernel_rfl
private noncomputable def h15 : HK := h14.srep _ s13 s13_k
private noncomputable def s14 : RE := ⟨50, [.v (.c (.ptr 12 0)), .v (.c (.ptr 253 0))], 2081, .v (.c (.ptr 2592 0)), l5, 4080⟩
private theorem s14_k : h15.rep l4 s14 = true := by kernel_rfl
private noncomputable def h16 : HK := h15.repl _ s14 s14_k
theorem TopNilReturn_2_t_run : isBool true (runW h16.K 13 [mi 8 2, ab true] s0) = true := by kernel_rfl
theorem TopNilReturn_2_t_law {args : Array Value} (ha : VAs (fun _ => none) [mi 8 2, ab true] args.toList) (w : World) (hT : Tab w) :
    Calls Tryz.prog 13 args w fun e w' => Below w.heap.size w w' ∧ e = .returned (.bool true) := h16.law TopNilReturn_2_t_run ha w hT
end Go.Proofs.YteajpblmbmncdaaGreatDoor
