/- Tables of calls, and a run that uses them. -/
import Derived.Test.YteajpblmbmncdaaGreatDoorLn
namespace Go.Proofs.YteajpblmbmncdaaGreatDoor
open Go Go.RowKit Ev
set_option maxRecDepth 100000
set_option linter.unusedVariables false
private noncomputable abbrev i (n : Nat) : CV := .int .i64 (.ofNat n)
private noncomputable abbrev o (b a n : Nat) : CV := .slice b a n (.opn 0)
private noncomputable abbrev f (b a n : Nat) : CV := .slice b a n (.fix n)
private noncomputable abbrev e (k t : Nat) : Nat × BK := (k, ⟨[.snil], t, 0, none⟩)
private noncomputable abbrev l0 : Bls := [(1, ⟨[i 0, i 0, i 0, i 0, i 1, i 0], 69, 0, none⟩),
(2, ⟨[f 1 0 3], 47, 0, none⟩),
(4, ⟨[i 1, i 0], 69, 0, none⟩),
(5, ⟨[i 0, i 0], 69, 0, none⟩),
(7, ⟨[i 1, i 0], 69, 0, none⟩),
(9, ⟨[.snil, i 0, i 0, f 4 0 1, i 0, i 0, f 5 0 1, i 0, i 0, f 7 0 1, i 1, i 0], 72, 0, none⟩),
(10, ⟨[i 0], 3, 0, none⟩),
(11, ⟨[f 10 0 1], 74, 0, none⟩),
(12, ⟨[f 2 0 1, f 9 0 4, f 11 0 1, .snil, o 62 0 4, i 0], 57, 0, none⟩),
(20, ⟨[i 0, i 0, i 1, i 0], 69, 2, none⟩),
(21, ⟨[o 30 0 3, i 3, i 0, i 0, i 0], 46, 0, none⟩),
(27, ⟨[i 1], 3, 0, none⟩),
(30, ⟨[i 1, i 0, i 0, i 0, i 1, .snil, i 5, i 1, i 0, i 0, i 0, .snil, i 12, i 0, i 0, i 0, i 1, f 27 0 1], 29, 6, none⟩),
(35, ⟨[i 1, i 0, i 0, i 0], 69, 2, none⟩),
(36, ⟨[o 42 0 1, i 3, i 1, i 0, i 0], 46, 0, none⟩),
(39, ⟨[i 0], 3, 0, none⟩),
(42, ⟨[i 12, i 1, i 0, i 0, i 2, f 39 0 1], 29, 6, none⟩),
(47, ⟨[i 1, i 0, i 0, i 0], 69, 2, none⟩),
(48, ⟨[o 54 0 1, i 3, i 1, i 0, i 0], 46, 0, none⟩),
(51, ⟨[i 0], 3, 0, none⟩),
(54, ⟨[i 12, i 1, i 0, i 0, i 3, f 51 0 1], 29, 6, none⟩),
(59, ⟨[i 1, i 0, i 0, i 0], 69, 2, none⟩),
(60, ⟨[o 65 0 1, i 3, i 1, i 0, i 0], 46, 0, none⟩),
(62, ⟨[i 0, o 20 0 2, f 21 0 1, i 1, o 35 0 2, f 36 0 1, i 1, o 47 0 2, f 48 0 1, i 1, o 59 0 2, f 60 0 1], 50, 3, none⟩),
(65, ⟨[i 7, i 1, i 0, i 0, i 0, .snil], 29, 6, none⟩)]
private noncomputable abbrev l1 : Bls := [(12, ⟨[f 2 0 1, f 9 0 4, f 11 0 1, .snil, o 62 0 4, i 0], 57, 0, none⟩),
(21, ⟨[o 30 0 3, i 3, i 0, i 0, i 0], 46, 0, none⟩),
(36, ⟨[o 42 0 1, i 3, i 1, i 0, i 0], 46, 0, none⟩),
(48, ⟨[o 54 0 1, i 3, i 1, i 0, i 0], 46, 0, none⟩),
(60, ⟨[o 65 0 1, i 3, i 1, i 0, i 0], 46, 0, none⟩),
(62, ⟨[i 0, o 20 0 2, f 21 0 1, i 1, o 35 0 2, f 36 0 1, i 1, o 47 0 2, f 48 0 1, i 1, o 59 0 2, f 60 0 1], 50, 3, none⟩)]
private noncomputable abbrev l2 : Bls := [(66, ⟨[o 110 0 4, o 114 0 4, o 157 0 1, o 146 0 1, o 148 0 1, i 15], 230, 0, none⟩),
(72, ⟨[i 0, i 1], 3, 1, none⟩),
(84, ⟨[i 3, i 4], 3, 1, none⟩),
(96, ⟨[i 6, i 7], 3, 1, none⟩),
(108, ⟨[i 9, i 10], 3, 1, none⟩),
(110, ⟨[o 72 0 2, o 84 0 2, o 96 0 2, o 108 0 2], 27, 1, none⟩),
(114, ⟨[i 2, i 5, i 8, i 11], 3, 1, none⟩),
(146, ⟨[i 1], 3, 1, none⟩),
(148, ⟨[i 0], 3, 1, none⟩),
(155, ⟨[i 12, i 13, i 14], 3, 1, none⟩),
(157, ⟨[o 155 0 3], 27, 1, none⟩)]
private noncomputable abbrev l3 : Bls := [(66, ⟨[o 110 0 4, o 114 0 4, o 157 0 1, o 146 0 1, o 148 0 1, i 15], 230, 0, none⟩),
(72, ⟨[i 0, i 1], 3, 1, none⟩),
(84, ⟨[i 3, i 4], 3, 1, none⟩),
(96, ⟨[i 6, i 7], 3, 1, none⟩),
(108, ⟨[i 9, i 10], 3, 1, none⟩),
(110, ⟨[o 72 0 2, o 84 0 2, o 96 0 2, o 108 0 2], 27, 1, none⟩),
(114, ⟨[i 2, i 5, i 8, i 11], 3, 1, none⟩),
(146, ⟨[i 1], 3, 1, none⟩),
(148, ⟨[i 0], 3, 1, none⟩),
(155, ⟨[i 12, i 13, i 14], 3, 1, none⟩),
(157, ⟨[o 155 0 3], 27, 1, none⟩),
(198, ⟨[o 228 0 15], 233, 0, none⟩),
(228, ⟨[i 0, i 1, i 2, i 3, i 4, i 5, i 6, i 7, i 8, i 9, i 10, i 11, i 12, i 13, i 14], 3, 1, none⟩),
(229, ⟨[.snil, .snil, .snil, .snil, .snil, .snil, .snil, .snil, .snil, .snil, .snil, .snil, .snil, .snil, .snil], 238, 0, none⟩),
(230, ⟨[o 371 0 1], 139, 0, none⟩),
(231, ⟨[], 0, 0, some (.map [(0, .agg [i 2, i 1], .c (.bool true)), (1, .agg [i 4, i 2], .c (.bool true)), (2, .agg [i 6, i 3], .c (.bool true))] 3)⟩),
(232, ⟨[], 0, 0, some (.map [] 4)⟩),
(233, ⟨[.snil, o 1341 0 0, .map 232, i 4], 237, 0, none⟩),
(234, ⟨[.ptr 12 0, .ptr 66 0, .ptr 198 0, o 363 0 15, o 366 0 15, o 369 0 15, f 229 0 15, .ptr 230 0, .map 231, .ptr 233 0], 145, 0, none⟩),
e 235 139,
e 238 139,
e 241 139,
(244, ⟨[o 579 0 1], 139, 0, none⟩),
(250, ⟨[o 585 0 1], 139, 0, none⟩),
e 253 139,
e 256 139,
e 259 139,
(262, ⟨[o 587 0 1], 139, 0, none⟩),
(268, ⟨[o 956 0 1], 139, 0, none⟩),
e 271 139,
e 274 139,
e 277 139,
e 280 139,
e 283 139,
e 286 139,
(289, ⟨[o 958 0 1], 139, 0, none⟩),
(295, ⟨[o 1337 0 1], 139, 0, none⟩),
e 298 139,
e 301 139,
e 304 139,
e 307 139,
e 310 139,
e 313 139,
(316, ⟨[o 1339 0 1], 139, 0, none⟩),
e 322 139,
e 325 139,
e 328 139,
e 331 139,
e 334 139,
e 337 139,
e 340 139,
e 343 139,
e 346 139,
e 349 139,
e 352 139,
e 355 139,
e 358 139,
e 361 139,
(363, ⟨[.ptr 235 0, .ptr 244 0, .ptr 253 0, .ptr 262 0, .ptr 271 0, .ptr 280 0, .ptr 289 0, .ptr 298 0, .ptr 307 0, .ptr 316 0, .ptr 325 0, .ptr 334 0, .ptr 343 0, .ptr 352 0, .ptr 361 0], 136, 1, none⟩),
e 364 139,
(366, ⟨[.ptr 238 0, .ptr 1870 0, .ptr 256 0, .ptr 1878 0, .ptr 274 0, .ptr 283 0, .ptr 1886 0, .ptr 301 0, .ptr 310 0, .ptr 1894 0, .ptr 328 0, .ptr 337 0, .ptr 346 0, .ptr 355 0, .ptr 364 0], 136, 1, none⟩),
e 367 139,
(369, ⟨[.ptr 241 0, .ptr 250 0, .ptr 259 0, .ptr 268 0, .ptr 277 0, .ptr 286 0, .ptr 295 0, .ptr 304 0, .ptr 313 0, .ptr 322 0, .ptr 331 0, .ptr 340 0, .ptr 349 0, .ptr 358 0, .ptr 367 0], 136, 1, none⟩),
(371, ⟨[.int .u64 (.ofNat 15)], 224, 1, none⟩),
(579, ⟨[.int .u64 (.ofNat 1)], 224, 1, none⟩),
(585, ⟨[.int .u64 (.ofNat 8)], 224, 1, none⟩),
(587, ⟨[.int .u64 (.ofNat 1)], 224, 1, none⟩),
(956, ⟨[.int .u64 (.ofNat 64)], 224, 1, none⟩),
(958, ⟨[.int .u64 (.ofNat 1)], 224, 1, none⟩),
(1337, ⟨[.int .u64 (.ofNat 512)], 224, 1, none⟩),
(1339, ⟨[.int .u64 (.ofNat 1)], 224, 1, none⟩),
(1341, ⟨[i 0, i 0, i 0, i 0], 3, 1, none⟩),
(1869, ⟨[.int .u64 (.ofNat 1)], 224, 1, none⟩),
(1870, ⟨[o 1869 0 1], 139, 0, none⟩),
(1877, ⟨[.int .u64 (.ofNat 1)], 224, 1, none⟩),
(1878, ⟨[o 1877 0 1], 139, 0, none⟩),
(1885, ⟨[.int .u64 (.ofNat 1)], 224, 1, none⟩),
(1886, ⟨[o 1885 0 1], 139, 0, none⟩),
(1893, ⟨[.int .u64 (.ofNat 1)], 224, 1, none⟩),
(1894, ⟨[o 1893 0 1], 139, 0, none⟩)]
private noncomputable abbrev l4 : Bls := [(1, ⟨[i 0, i 0, i 0, i 0, i 1, i 0], 69, 0, none⟩),
(2, ⟨[f 1 0 3], 47, 0, none⟩),
(4, ⟨[i 1, i 0], 69, 0, none⟩),
(5, ⟨[i 0, i 0], 69, 0, none⟩),
(7, ⟨[i 1, i 0], 69, 0, none⟩),
(9, ⟨[.snil, i 0, i 0, f 4 0 1, i 0, i 0, f 5 0 1, i 0, i 0, f 7 0 1, i 1, i 0], 72, 0, none⟩),
(10, ⟨[i 0], 3, 0, none⟩),
(11, ⟨[f 10 0 1], 74, 0, none⟩),
(12, ⟨[f 2 0 1, f 9 0 4, f 11 0 1, .snil, o 62 0 4, i 0], 57, 0, none⟩),
(20, ⟨[i 0, i 0, i 1, i 0], 69, 2, none⟩),
(21, ⟨[o 30 0 3, i 3, i 0, i 0, i 0], 46, 0, none⟩),
(27, ⟨[i 1], 3, 0, none⟩),
(30, ⟨[i 1, i 0, i 0, i 0, i 1, .snil, i 5, i 1, i 0, i 0, i 0, .snil, i 12, i 0, i 0, i 0, i 1, f 27 0 1], 29, 6, none⟩),
(35, ⟨[i 1, i 0, i 0, i 0], 69, 2, none⟩),
(36, ⟨[o 42 0 1, i 3, i 1, i 0, i 0], 46, 0, none⟩),
(39, ⟨[i 0], 3, 0, none⟩),
(42, ⟨[i 12, i 1, i 0, i 0, i 2, f 39 0 1], 29, 6, none⟩),
(47, ⟨[i 1, i 0, i 0, i 0], 69, 2, none⟩),
(48, ⟨[o 54 0 1, i 3, i 1, i 0, i 0], 46, 0, none⟩),
(51, ⟨[i 0], 3, 0, none⟩),
(54, ⟨[i 12, i 1, i 0, i 0, i 3, f 51 0 1], 29, 6, none⟩),
(59, ⟨[i 1, i 0, i 0, i 0], 69, 2, none⟩),
(60, ⟨[o 65 0 1, i 3, i 1, i 0, i 0], 46, 0, none⟩),
(62, ⟨[i 0, o 20 0 2, f 21 0 1, i 1, o 35 0 2, f 36 0 1, i 1, o 47 0 2, f 48 0 1, i 1, o 59 0 2, f 60 0 1], 50, 3, none⟩),
(65, ⟨[i 7, i 1, i 0, i 0, i 0, .snil], 29, 6, none⟩),
(66, ⟨[o 110 0 4, o 114 0 4, o 157 0 1, o 146 0 1, o 148 0 1, i 15], 230, 0, none⟩),
(72, ⟨[i 0, i 1], 3, 1, none⟩),
(84, ⟨[i 3, i 4], 3, 1, none⟩),
(96, ⟨[i 6, i 7], 3, 1, none⟩),
(108, ⟨[i 9, i 10], 3, 1, none⟩),
(110, ⟨[o 72 0 2, o 84 0 2, o 96 0 2, o 108 0 2], 27, 1, none⟩),
(114, ⟨[i 2, i 5, i 8, i 11], 3, 1, none⟩),
(146, ⟨[i 1], 3, 1, none⟩),
(148, ⟨[i 0], 3, 1, none⟩),
(155, ⟨[i 12, i 13, i 14], 3, 1, none⟩),
(157, ⟨[o 155 0 3], 27, 1, none⟩),
(198, ⟨[o 228 0 15], 233, 0, none⟩),
(228, ⟨[i 0, i 1, i 2, i 3, i 4, i 5, i 6, i 7, i 8, i 9, i 10, i 11, i 12, i 13, i 14], 3, 1, none⟩),
(229, ⟨[.snil, .snil, .snil, .snil, .snil, .snil, .snil, .snil, .snil, .snil, .snil, .snil, .snil, .snil, .snil], 238, 0, none⟩),
(230, ⟨[o 371 0 1], 139, 0, none⟩),
(231, ⟨[], 0, 0, some (.map [(0, .agg [i 2, i 1], .c (.bool true)), (1, .agg [i 4, i 2], .c (.bool true)), (2, .agg [i 6, i 3], .c (.bool true))] 3)⟩),
(232, ⟨[], 0, 0, some (.map [] 4)⟩),
(233, ⟨[.snil, o 1341 0 0, .map 232, i 4], 237, 0, none⟩),
(234, ⟨[.ptr 12 0, .ptr 66 0, .ptr 198 0, o 363 0 15, o 366 0 15, o 369 0 15, f 229 0 15, .ptr 230 0, .map 231, .ptr 233 0], 145, 0, none⟩),
e 235 139,
e 238 139,
e 241 139,
(244, ⟨[o 579 0 1], 139, 0, none⟩),
(250, ⟨[o 585 0 1], 139, 0, none⟩),
e 253 139,
e 256 139,
e 259 139,
(262, ⟨[o 587 0 1], 139, 0, none⟩),
(268, ⟨[o 956 0 1], 139, 0, none⟩),
e 271 139,
e 274 139,
e 277 139,
e 280 139,
e 283 139,
e 286 139,
(289, ⟨[o 958 0 1], 139, 0, none⟩),
(295, ⟨[o 1337 0 1], 139, 0, none⟩),
e 298 139,
e 301 139,
e 304 139,
e 307 139,
e 310 139,
e 313 139,
(316, ⟨[o 1339 0 1], 139, 0, none⟩),
e 322 139,
e 325 139,
e 328 139,
e 331 139,
e 334 139,
e 337 139,
e 340 139,
e 343 139,
e 346 139,
e 349 139,
e 352 139,
e 355 139,
e 358 139,
e 361 139,
(363, ⟨[.ptr 235 0, .ptr 244 0, .ptr 253 0, .ptr 262 0, .ptr 271 0, .ptr 280 0, .ptr 289 0, .ptr 298 0, .ptr 307 0, .ptr 316 0, .ptr 325 0, .ptr 334 0, .ptr 343 0, .ptr 352 0, .ptr 361 0], 136, 1, none⟩),
e 364 139,
(366, ⟨[.ptr 238 0, .ptr 1870 0, .ptr 256 0, .ptr 1878 0, .ptr 274 0, .ptr 283 0, .ptr 1886 0, .ptr 301 0, .ptr 310 0, .ptr 1894 0, .ptr 328 0, .ptr 337 0, .ptr 346 0, .ptr 355 0, .ptr 364 0], 136, 1, none⟩),
e 367 139,
(369, ⟨[.ptr 241 0, .ptr 250 0, .ptr 259 0, .ptr 268 0, .ptr 277 0, .ptr 286 0, .ptr 295 0, .ptr 304 0, .ptr 313 0, .ptr 322 0, .ptr 331 0, .ptr 340 0, .ptr 349 0, .ptr 358 0, .ptr 367 0], 136, 1, none⟩),
(371, ⟨[.int .u64 (.ofNat 15)], 224, 1, none⟩),
(579, ⟨[.int .u64 (.ofNat 1)], 224, 1, none⟩),
(585, ⟨[.int .u64 (.ofNat 8)], 224, 1, none⟩),
(587, ⟨[.int .u64 (.ofNat 1)], 224, 1, none⟩),
(956, ⟨[.int .u64 (.ofNat 64)], 224, 1, none⟩),
(958, ⟨[.int .u64 (.ofNat 1)], 224, 1, none⟩),
(1337, ⟨[.int .u64 (.ofNat 512)], 224, 1, none⟩),
(1339, ⟨[.int .u64 (.ofNat 1)], 224, 1, none⟩),
(1341, ⟨[i 0, i 0, i 0, i 0], 3, 1, none⟩),
(1869, ⟨[.int .u64 (.ofNat 1)], 224, 1, none⟩),
(1870, ⟨[o 1869 0 1], 139, 0, none⟩),
(1877, ⟨[.int .u64 (.ofNat 1)], 224, 1, none⟩),
(1878, ⟨[o 1877 0 1], 139, 0, none⟩),
(1885, ⟨[.int .u64 (.ofNat 1)], 224, 1, none⟩),
(1886, ⟨[o 1885 0 1], 139, 0, none⟩),
(1893, ⟨[.int .u64 (.ofNat 1)], 224, 1, none⟩),
(1894, ⟨[o 1893 0 1], 139, 0, none⟩)]
private noncomputable abbrev l5 : Bls := [(2370, ⟨[], 0, 0, some (.map [(0, .agg [i 4, i 0, i 0, i 1, i 0], .c (o 3526 0 1)), (1, .agg [i 4, i 0, i 0, i 1, i 1], .c (o 3541 0 1)), (2, .agg [i 4, i 0, i 0, i 1, i 2], .c (o 3556 0 1)), (3, .agg [i 1, i 1, i 0, i 0, i 0], .c (o 3588 0 1)), (4, .agg [i 5, i 1, i 0, i 0, i 0], .c (o 3593 0 1)), (5, .agg [i 3, i 1, i 0, i 1, i 0], .c (o 3650 0 2)), (6, .agg [i 1, i 2, i 0, i 0, i 0], .c (o 3633 0 1)), (7, .agg [i 3, i 1, i 0, i 1, i 1], .c (o 3667 0 1)), (8, .agg [i 3, i 1, i 0, i 1, i 2], .c (o 3684 0 1)), (9, .agg [i 2, i 1, i 0, i 0, i 0], .c (o 3709 0 1)), (10, .agg [i 5, i 2, i 0, i 0, i 0], .c (o 3714 0 1)), (11, .agg [i 4, i 1, i 0, i 1, i 0], .c (o 3767 0 2)), (12, .agg [i 1, i 4, i 0, i 0, i 0], .c (o 3752 0 1)), (13, .agg [i 2, i 2, i 0, i 0, i 0], .c (o 3792 0 1)), (14, .agg [i 5, i 3, i 0, i 0, i 0], .c (o 3797 0 1)), (15, .agg [i 4, i 2, i 0, i 1, i 0], .c (o 3850 0 2)), (16, .agg [i 1, i 6, i 0, i 0, i 0], .c (o 3835 0 1)), (17, .agg [i 4, i 3, i 0, i 1, i 0], .c (o 3918 0 2)), (18, .agg [i 1, i 8, i 0, i 0, i 0], .c (o 3903 0 1))] 19)⟩),
(2371, ⟨[.map 2370, .md 1 (.ofNat 0) true], 155, 0, none⟩),
(3526, ⟨[i 3, i 1, i 0, i 1, i 0], 116, 5, none⟩),
(3541, ⟨[i 3, i 1, i 0, i 1, i 1], 116, 5, none⟩),
(3556, ⟨[i 3, i 1, i 0, i 1, i 2], 116, 5, none⟩),
(3588, ⟨[i 2, i 1, i 0, i 0, i 0], 116, 5, none⟩),
(3593, ⟨[i 1, i 2, i 0, i 0, i 0], 116, 5, none⟩),
(3633, ⟨[i 5, i 0, i 0, i 0, i 0], 116, 5, none⟩),
(3650, ⟨[i 4, i 1, i 0, i 1, i 0, i 6, i 0, i 0, i 1, i 0], 116, 5, none⟩),
(3667, ⟨[i 6, i 0, i 0, i 1, i 1], 116, 5, none⟩),
(3684, ⟨[i 6, i 0, i 0, i 1, i 2], 116, 5, none⟩),
(3709, ⟨[i 2, i 2, i 0, i 0, i 0], 116, 5, none⟩),
(3714, ⟨[i 1, i 4, i 0, i 0, i 0], 116, 5, none⟩),
(3752, ⟨[i 5, i 1, i 0, i 0, i 0], 116, 5, none⟩),
(3767, ⟨[i 4, i 2, i 0, i 1, i 0, i 6, i 1, i 0, i 1, i 0], 116, 5, none⟩),
(3792, ⟨[i 2, i 3, i 0, i 0, i 0], 116, 5, none⟩),
(3797, ⟨[i 1, i 6, i 0, i 0, i 0], 116, 5, none⟩),
(3835, ⟨[i 5, i 2, i 0, i 0, i 0], 116, 5, none⟩),
(3850, ⟨[i 4, i 3, i 0, i 1, i 0, i 6, i 2, i 0, i 1, i 0], 116, 5, none⟩),
(3903, ⟨[i 5, i 3, i 0, i 0, i 0], 116, 5, none⟩),
(3918, ⟨[i 1, i 8, i 0, i 0, i 0, i 6, i 3, i 0, i 1, i 0], 116, 5, none⟩)]
private noncomputable def m0 : MM := ⟨[48], l0, 66, [⟨48, 0, [.v (.c (.ptr 12 0))], .v (.c (.nili))⟩]⟩
private theorem m0_k : H0.tbl m0 = true := by kernel_rfl
private noncomputable def h1 : HK := H0.memo m0 m0_k
private noncomputable def m1 : MM := ⟨[155], l1, 137, [⟨155, 0, [.v (.c (.ptr 12 0)), .v (.c (i 0))], .tup [.agg [i 0, i 0, i 0], .c (.bool true)]⟩,
⟨155, 1, [.v (.c (.ptr 12 0)), .v (.c (i 1))], .tup [.agg [i 0, i 0, i 1], .c (.bool true)]⟩,
⟨155, 2, [.v (.c (.ptr 12 0)), .v (.c (i 2))], .tup [.agg [i 0, i 0, i 2], .c (.bool true)]⟩,
⟨155, 3, [.v (.c (.ptr 12 0)), .v (.c (i 3))], .tup [.agg [i 0, i 0, i 3], .c (.bool true)]⟩,
⟨155, 4, [.v (.c (.ptr 12 0)), .v (.c (i 4))], .tup [.agg [i 1, i 0, i 0], .c (.bool true)]⟩,
⟨155, 5, [.v (.c (.ptr 12 0)), .v (.c (i 5))], .tup [.agg [i 1, i 0, i 1], .c (.bool true)]⟩,
⟨155, 6, [.v (.c (.ptr 12 0)), .v (.c (i 6))], .tup [.agg [i 2, i 0, i 0], .c (.bool true)]⟩,
⟨155, 7, [.v (.c (.ptr 12 0)), .v (.c (i 7))], .tup [.agg [i 2, i 0, i 1], .c (.bool true)]⟩,
⟨155, 8, [.v (.c (.ptr 12 0)), .v (.c (i 8))], .tup [.agg [i 3, i 0, i 0], .c (.bool true)]⟩,
⟨155, 9, [.v (.c (.ptr 12 0)), .v (.c (i 9))], .tup [.agg [i 3, i 0, i 1], .c (.bool true)]⟩]⟩
private theorem m1_k : h1.tbl m1 = true := by kernel_rfl
private noncomputable def h2 : HK := h1.memo m1 m1_k
private noncomputable def s1 : RE := ⟨76, [.v (.c (.ptr 12 0))], 66, .v (.c (.ptr 66 0)), l2, 198⟩
private theorem s1_k : h2.srp l0 s1 = true := by kernel_rfl
private noncomputable def h3 : HK := h2.srep _ s1 s1_k
private noncomputable def s2 : RE := ⟨49, [.v (.c (.ptr 12 0)), .v (.c (.snil))], 66, .v (.c (.ptr 234 0)), l3, 1895⟩
private theorem s2_k : h3.rep l0 s2 = true := by kernel_rfl
private noncomputable def h4 : HK := h3.repl _ s2 s2_k
private noncomputable def s3 : RE := ⟨151, [.v (.c (.ptr 12 0)), .v (.c (.ptr 234 0)), .v (.c (i 2))], 2035, .v (.c (.snil)), [], 2132⟩
private theorem s3_k : h4.srp l4 s3 = true := by kernel_rfl
private noncomputable def h5 : HK := h4.srep _ s3 s3_k
private noncomputable def s4 : RE := ⟨151, [.v (.c (.ptr 12 0)), .v (.c (.ptr 234 0)), .v (.c (i 4))], 2148, .v (.c (.snil)), [], 2236⟩
private theorem s4_k : h5.srp l4 s4 = true := by kernel_rfl
private noncomputable def h6 : HK := h5.srep _ s4 s4_k
private noncomputable def s5 : RE := ⟨151, [.v (.c (.ptr 12 0)), .v (.c (.ptr 234 0)), .v (.c (i 6))], 2252, .v (.c (.snil)), [], 2331⟩
private theorem s5_k : h6.srp l4 s5 = true := by kernel_rfl
private noncomputable def h7 : HK := h6.srep _ s5 s5_k
private noncomputable def s6 : RE := ⟨85, [.v (.c (.ptr 12 0)), .v (.c (.ptr 234 0)), .v (.c (i 0))], 2373, .v (.c (o 2602 0 3)), [(2602, ⟨[i 1, i 0, i 1, i 1, i 1, i 2, i 0, i 0], 114, 2, none⟩)], 2618⟩
private theorem s6_k : h7.srp l4 s6 = true := by kernel_rfl
private noncomputable def h8 : HK := h7.srep _ s6 s6_k
private noncomputable def s7 : RE := ⟨86, [.v (.c (.ptr 12 0)), .v (.c (.ptr 234 0)), .v (.c (i 0))], 2620, .v (.c (o 2689 0 3)), [(2689, ⟨[i 1, i 0, i 1, i 1, i 1, i 2], 114, 2, none⟩)], 2736⟩
private theorem s7_k : h8.srp l4 s7 = true := by kernel_rfl
private noncomputable def h9 : HK := h8.srep _ s7 s7_k
private noncomputable def s8 : RE := ⟨85, [.v (.c (.ptr 12 0)), .v (.c (.ptr 234 0)), .v (.c (i 1))], 2738, .v (.c (o 2920 0 1)), [(2920, ⟨[i 1, i 0], 114, 2, none⟩)], 2921⟩
private theorem s8_k : h9.srp l4 s8 = true := by kernel_rfl
private noncomputable def h10 : HK := h9.srep _ s8 s8_k
private noncomputable def s9 : RE := ⟨86, [.v (.c (.ptr 12 0)), .v (.c (.ptr 234 0)), .v (.c (i 1))], 2923, .v (.c (.snil)), [], 3009⟩
private theorem s9_k : h10.srp l4 s9 = true := by kernel_rfl
private noncomputable def h11 : HK := h10.srep _ s9 s9_k
private noncomputable def s10 : RE := ⟨85, [.v (.c (.ptr 12 0)), .v (.c (.ptr 234 0)), .v (.c (i 2))], 3011, .v (.c (o 3175 0 1)), [(3175, ⟨[i 1, i 0], 114, 2, none⟩)], 3176⟩
private theorem s10_k : h11.srp l4 s10 = true := by kernel_rfl
private noncomputable def h12 : HK := h11.srep _ s10 s10_k
private noncomputable def s11 : RE := ⟨86, [.v (.c (.ptr 12 0)), .v (.c (.ptr 234 0)), .v (.c (i 2))], 3178, .v (.c (.snil)), [], 3255⟩
private theorem s11_k : h12.srp l4 s11 = true := by kernel_rfl
private noncomputable def h13 : HK := h12.srep _ s11 s11_k
private noncomputable def s12 : RE := ⟨85, [.v (.c (.ptr 12 0)), .v (.c (.ptr 234 0)), .v (.c (i 3))], 3257, .v (.c (o 3403 0 1)), [(3403, ⟨[i 1, i 0], 114, 2, none⟩)], 3404⟩
private theorem s12_k : h13.srp l4 s12 = true := by kernel_rfl
private noncomputable def h14 : HK := h13.srep _ s12 s12_k
private noncomputable def s13 : RE := ⟨86, [.v (.c (.ptr 12 0)), .v (.c (.ptr 234 0)), .v (.c (i 3))], 3406, .v (.c (.snil)), [], 3474⟩
private theorem s13_k : h14.srp l4 s13 = true := by kernel_rfl
private noncomputable def h15 : HK := h14.srep _ s13 s13_k
private noncomputable def s14 : RE := ⟨50, [.v (.c (.ptr 12 0)), .v (.c (.ptr 234 0))], 1895, .v (.c (.ptr 2371 0)), l5, 3920⟩
private theorem s14_k : h15.rep l4 s14 = true := by kernel_rfl
private noncomputable def h16 : HK := h15.repl _ s14 s14_k
theorem TopNilParam_2_f_run : isBool true (runW h16.K 12 [mi 8 2, ab false] s0) = true := by kernel_rfl
theorem TopNilParam_2_f_law {args : Array Value} (ha : VAs (fun _ => none) [mi 8 2, ab false] args.toList) (w : World) (hT : Tab w) :
    Calls Tryz.prog 12 args w fun e w' => Below w.heap.size w w' ∧ e = .returned (.bool true) := h16.law TopNilParam_2_f_run ha w hT
end Go.Proofs.YteajpblmbmncdaaGreatDoor
