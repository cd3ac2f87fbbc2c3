/- Tables of calls, and a run that uses them. -/
import Derived.Test.YteajpblmbmncdaaGreatDoorLn
namespace Go.Proofs.YteajpblmbmncdaaGreatDoor
open Go Go.RowKit Ev
set_option maxRecDepth 100000
set_option linter.unusedVariables false
private noncomputable abbrev i (n : Nat) : CV := .int .i64 (.ofNat n)
private noncomputable abbrev o (b a n : Nat) : CV := .slice b a n (.opn 0)
private noncomputable abbrev f (b a n : Nat) : CV := .slice b a n (.fix n)
private noncomputable abbrev e (k t : Nat) : Nat × BK := (k, ⟨[.snil], t, 0, none⟩)
private noncomputable abbrev l0 : Bls := [(1, ⟨[i 0, i 0, i 0, i 0, i 1, i 0], 69, 0, none⟩),
(2, ⟨[f 1 0 3], 47, 0, none⟩),
(4, ⟨[i 1, i 0], 69, 0, none⟩),
(5, ⟨[i 0, i 0], 69, 0, none⟩),
(7, ⟨[i 1, i 0], 69, 0, none⟩),
(9, ⟨[.snil, i 0, i 0, f 4 0 1, i 0, i 0, f 5 0 1, i 0, i 0, f 7 0 1, i 1, i 0], 72, 0, none⟩),
(10, ⟨[i 0], 3, 0, none⟩),
(11, ⟨[f 10 0 1], 74, 0, none⟩),
(12, ⟨[f 2 0 1, f 9 0 4, f 11 0 1, .snil, o 73 0 5, i 0], 57, 0, none⟩),
(19, ⟨[i 0, i 0, i 0, i 0], 69, 2, none⟩),
(20, ⟨[o 29 0 3, i 3, i 0, i 0, i 0], 46, 0, none⟩),
(25, ⟨[i 0], 3, 0, none⟩),
(29, ⟨[i 3, i 0, i 0, i 0, i 0, .snil, i 12, i 1, i 0, i 0, i 1, f 25 0 1, i 15, i 0, i 1, i 0, i 0, .snil], 29, 6, none⟩),
(34, ⟨[i 0, i 0, i 0, i 0], 69, 2, none⟩),
(35, ⟨[o 41 0 1, i 3, i 0, i 0, i 0], 46, 0, none⟩),
(38, ⟨[i 0], 3, 0, none⟩),
(41, ⟨[i 12, i 0, i 0, i 0, i 2, f 38 0 1], 29, 6, none⟩),
(46, ⟨[i 0, i 0, i 0, i 0], 69, 2, none⟩),
(47, ⟨[o 53 0 1, i 3, i 0, i 0, i 0], 46, 0, none⟩),
(50, ⟨[i 0], 3, 0, none⟩),
(53, ⟨[i 12, i 0, i 0, i 0, i 3, f 50 0 1], 29, 6, none⟩),
(58, ⟨[i 0, i 0, i 0, i 0], 69, 2, none⟩),
(59, ⟨[o 65 0 1, i 3, i 0, i 0, i 0], 46, 0, none⟩),
(62, ⟨[i 0], 3, 0, none⟩),
(65, ⟨[i 12, i 0, i 0, i 0, i 4, f 62 0 1], 29, 6, none⟩),
(70, ⟨[i 0, i 0, i 0, i 0], 69, 2, none⟩),
(71, ⟨[.snil, i 3, i 0, i 0, i 0], 46, 0, none⟩),
(73, ⟨[i 0, o 19 0 2, f 20 0 1, i 2, o 34 0 2, f 35 0 1, i 2, o 46 0 2, f 47 0 1, i 2, o 58 0 2, f 59 0 1, i 2, o 70 0 2, f 71 0 1], 50, 3, none⟩)]
private noncomputable abbrev l1 : Bls := [(12, ⟨[f 2 0 1, f 9 0 4, f 11 0 1, .snil, o 73 0 5, i 0], 57, 0, none⟩),
(20, ⟨[o 29 0 3, i 3, i 0, i 0, i 0], 46, 0, none⟩),
(35, ⟨[o 41 0 1, i 3, i 0, i 0, i 0], 46, 0, none⟩),
(47, ⟨[o 53 0 1, i 3, i 0, i 0, i 0], 46, 0, none⟩),
(59, ⟨[o 65 0 1, i 3, i 0, i 0, i 0], 46, 0, none⟩),
(71, ⟨[.snil, i 3, i 0, i 0, i 0], 46, 0, none⟩),
(73, ⟨[i 0, o 19 0 2, f 20 0 1, i 2, o 34 0 2, f 35 0 1, i 2, o 46 0 2, f 47 0 1, i 2, o 58 0 2, f 59 0 1, i 2, o 70 0 2, f 71 0 1], 50, 3, none⟩)]
private noncomputable abbrev l2 : Bls := [(75, ⟨[o 131 0 5, o 135 0 5, .snil, .snil, .snil, i 15], 230, 0, none⟩),
(81, ⟨[i 0, i 1], 3, 1, none⟩),
(93, ⟨[i 3, i 4], 3, 1, none⟩),
(105, ⟨[i 6, i 7], 3, 1, none⟩),
(117, ⟨[i 9, i 10], 3, 1, none⟩),
(129, ⟨[i 12, i 13], 3, 1, none⟩),
(131, ⟨[o 81 0 2, o 93 0 2, o 105 0 2, o 117 0 2, o 129 0 2], 27, 1, none⟩),
(135, ⟨[i 2, i 5, i 8, i 11, i 14], 3, 1, none⟩),
(213, ⟨[o 243 0 15], 233, 0, none⟩),
(243, ⟨[i 0, i 1, i 2, i 3, i 4, i 5, i 6, i 7, i 8, i 9, i 10, i 11, i 12, i 13, i 14], 3, 1, none⟩),
(244, ⟨[.snil, .snil, .snil, .snil, .snil, .snil, .snil, .snil, .snil, .snil, .snil, .snil, .snil, .snil, .snil], 238, 0, none⟩),
(245, ⟨[o 386 0 1], 139, 0, none⟩),
(246, ⟨[], 0, 0, some (.map [(0, .agg [i 1, i 1], .c (.bool true)), (1, .agg [i 4, i 2], .c (.bool true)), (2, .agg [i 6, i 3], .c (.bool true)), (3, .agg [i 8, i 4], .c (.bool true))] 4)⟩),
(247, ⟨[], 0, 0, some (.map [] 0)⟩),
(248, ⟨[.snil, .snil, .map 247, i 0], 237, 0, none⟩),
(249, ⟨[.ptr 12 0, .ptr 75 0, .ptr 213 0, o 378 0 15, o 381 0 15, o 384 0 15, f 244 0 15, .ptr 245 0, .map 246, .ptr 248 0], 145, 0, none⟩),
e 250 139,
e 253 139,
e 256 139,
e 259 139,
e 262 139,
e 265 139,
e 268 139,
e 271 139,
e 274 139,
e 277 139,
e 280 139,
e 283 139,
e 286 139,
e 289 139,
e 292 139,
e 295 139,
e 298 139,
e 301 139,
e 304 139,
e 307 139,
e 310 139,
e 313 139,
e 316 139,
e 319 139,
e 322 139,
e 325 139,
e 328 139,
e 331 139,
e 334 139,
e 337 139,
e 340 139,
e 343 139,
e 346 139,
e 349 139,
e 352 139,
e 355 139,
e 358 139,
e 361 139,
e 364 139,
e 367 139,
e 370 139,
e 373 139,
e 376 139,
(378, ⟨[.ptr 250 0, .ptr 259 0, .ptr 268 0, .ptr 277 0, .ptr 286 0, .ptr 295 0, .ptr 304 0, .ptr 313 0, .ptr 322 0, .ptr 331 0, .ptr 340 0, .ptr 349 0, .ptr 358 0, .ptr 367 0, .ptr 376 0], 136, 1, none⟩),
e 379 139,
(381, ⟨[.ptr 253 0, .ptr 262 0, .ptr 271 0, .ptr 280 0, .ptr 289 0, .ptr 298 0, .ptr 307 0, .ptr 316 0, .ptr 325 0, .ptr 334 0, .ptr 343 0, .ptr 352 0, .ptr 361 0, .ptr 370 0, .ptr 379 0], 136, 1, none⟩),
e 382 139,
(384, ⟨[.ptr 256 0, .ptr 265 0, .ptr 274 0, .ptr 283 0, .ptr 292 0, .ptr 301 0, .ptr 310 0, .ptr 319 0, .ptr 328 0, .ptr 337 0, .ptr 346 0, .ptr 355 0, .ptr 364 0, .ptr 373 0, .ptr 382 0], 136, 1, none⟩),
(386, ⟨[.int .u64 (.ofNat 31)], 224, 1, none⟩)]
private noncomputable abbrev l3 : Bls := [(1, ⟨[i 0, i 0, i 0, i 0, i 1, i 0], 69, 0, none⟩),
(2, ⟨[f 1 0 3], 47, 0, none⟩),
(4, ⟨[i 1, i 0], 69, 0, none⟩),
(5, ⟨[i 0, i 0], 69, 0, none⟩),
(7, ⟨[i 1, i 0], 69, 0, none⟩),
(9, ⟨[.snil, i 0, i 0, f 4 0 1, i 0, i 0, f 5 0 1, i 0, i 0, f 7 0 1, i 1, i 0], 72, 0, none⟩),
(10, ⟨[i 0], 3, 0, none⟩),
(11, ⟨[f 10 0 1], 74, 0, none⟩),
(12, ⟨[f 2 0 1, f 9 0 4, f 11 0 1, .snil, o 73 0 5, i 0], 57, 0, none⟩),
(19, ⟨[i 0, i 0, i 0, i 0], 69, 2, none⟩),
(20, ⟨[o 29 0 3, i 3, i 0, i 0, i 0], 46, 0, none⟩),
(25, ⟨[i 0], 3, 0, none⟩),
(29, ⟨[i 3, i 0, i 0, i 0, i 0, .snil, i 12, i 1, i 0, i 0, i 1, f 25 0 1, i 15, i 0, i 1, i 0, i 0, .snil], 29, 6, none⟩),
(34, ⟨[i 0, i 0, i 0, i 0], 69, 2, none⟩),
(35, ⟨[o 41 0 1, i 3, i 0, i 0, i 0], 46, 0, none⟩),
(38, ⟨[i 0], 3, 0, none⟩),
(41, ⟨[i 12, i 0, i 0, i 0, i 2, f 38 0 1], 29, 6, none⟩),
(46, ⟨[i 0, i 0, i 0, i 0], 69, 2, none⟩),
(47, ⟨[o 53 0 1, i 3, i 0, i 0, i 0], 46, 0, none⟩),
(50, ⟨[i 0], 3, 0, none⟩),
(53, ⟨[i 12, i 0, i 0, i 0, i 3, f 50 0 1], 29, 6, none⟩),
(58, ⟨[i 0, i 0, i 0, i 0], 69, 2, none⟩),
(59, ⟨[o 65 0 1, i 3, i 0, i 0, i 0], 46, 0, none⟩),
(62, ⟨[i 0], 3, 0, none⟩),
(65, ⟨[i 12, i 0, i 0, i 0, i 4, f 62 0 1], 29, 6, none⟩),
(70, ⟨[i 0, i 0, i 0, i 0], 69, 2, none⟩),
(71, ⟨[.snil, i 3, i 0, i 0, i 0], 46, 0, none⟩),
(73, ⟨[i 0, o 19 0 2, f 20 0 1, i 2, o 34 0 2, f 35 0 1, i 2, o 46 0 2, f 47 0 1, i 2, o 58 0 2, f 59 0 1, i 2, o 70 0 2, f 71 0 1], 50, 3, none⟩),
(75, ⟨[o 131 0 5, o 135 0 5, .snil, .snil, .snil, i 15], 230, 0, none⟩),
(81, ⟨[i 0, i 1], 3, 1, none⟩),
(93, ⟨[i 3, i 4], 3, 1, none⟩),
(105, ⟨[i 6, i 7], 3, 1, none⟩),
(117, ⟨[i 9, i 10], 3, 1, none⟩),
(129, ⟨[i 12, i 13], 3, 1, none⟩),
(131, ⟨[o 81 0 2, o 93 0 2, o 105 0 2, o 117 0 2, o 129 0 2], 27, 1, none⟩),
(135, ⟨[i 2, i 5, i 8, i 11, i 14], 3, 1, none⟩),
(213, ⟨[o 243 0 15], 233, 0, none⟩),
(243, ⟨[i 0, i 1, i 2, i 3, i 4, i 5, i 6, i 7, i 8, i 9, i 10, i 11, i 12, i 13, i 14], 3, 1, none⟩),
(244, ⟨[.snil, .snil, .snil, .snil, .snil, .snil, .snil, .snil, .snil, .snil, .snil, .snil, .snil, .snil, .snil], 238, 0, none⟩),
(245, ⟨[o 386 0 1], 139, 0, none⟩),
(246, ⟨[], 0, 0, some (.map [(0, .agg [i 1, i 1], .c (.bool true)), (1, .agg [i 4, i 2], .c (.bool true)), (2, .agg [i 6, i 3], .c (.bool true)), (3, .agg [i 8, i 4], .c (.bool true))] 4)⟩),
(247, ⟨[], 0, 0, some (.map [] 0)⟩),
(248, ⟨[.snil, .snil, .map 247, i 0], 237, 0, none⟩),
(249, ⟨[.ptr 12 0, .ptr 75 0, .ptr 213 0, o 378 0 15, o 381 0 15, o 384 0 15, f 244 0 15, .ptr 245 0, .map 246, .ptr 248 0], 145, 0, none⟩),
e 250 139,
e 253 139,
e 256 139,
e 259 139,
e 262 139,
e 265 139,
e 268 139,
e 271 139,
e 274 139,
e 277 139,
e 280 139,
e 283 139,
e 286 139,
e 289 139,
e 292 139,
e 295 139,
e 298 139,
e 301 139,
e 304 139,
e 307 139,
e 310 139,
e 313 139,
e 316 139,
e 319 139,
e 322 139,
e 325 139,
e 328 139,
e 331 139,
e 334 139,
e 337 139,
e 340 139,
e 343 139,
e 346 139,
e 349 139,
e 352 139,
e 355 139,
e 358 139,
e 361 139,
e 364 139,
e 367 139,
e 370 139,
e 373 139,
e 376 139,
(378, ⟨[.ptr 250 0, .ptr 259 0, .ptr 268 0, .ptr 277 0, .ptr 286 0, .ptr 295 0, .ptr 304 0, .ptr 313 0, .ptr 322 0, .ptr 331 0, .ptr 340 0, .ptr 349 0, .ptr 358 0, .ptr 367 0, .ptr 376 0], 136, 1, none⟩),
e 379 139,
(381, ⟨[.ptr 253 0, .ptr 262 0, .ptr 271 0, .ptr 280 0, .ptr 289 0, .ptr 298 0, .ptr 307 0, .ptr 316 0, .ptr 325 0, .ptr 334 0, .ptr 343 0, .ptr 352 0, .ptr 361 0, .ptr 370 0, .ptr 379 0], 136, 1, none⟩),
e 382 139,
(384, ⟨[.ptr 256 0, .ptr 265 0, .ptr 274 0, .ptr 283 0, .ptr 292 0, .ptr 301 0, .ptr 310 0, .ptr 319 0, .ptr 328 0, .ptr 337 0, .ptr 346 0, .ptr 355 0, .ptr 364 0, .ptr 373 0, .ptr 382 0], 136, 1, none⟩),
(386, ⟨[.int .u64 (.ofNat 31)], 224, 1, none⟩)]
private noncomputable abbrev l4 : Bls := [(2910, ⟨[], 0, 0, some (.map [(0, .agg [i 1, i 0, i 0, i 0, i 0], .c (o 4404 0 2)), (1, .agg [i 5, i 1, i 0, i 0, i 0], .c (o 4358 0 1)), (2, .agg [i 2, i 1, i 0, i 0, i 0], .c (o 4430 0 1)), (3, .agg [i 5, i 2, i 0, i 0, i 0], .c (o 4435 0 1)), (4, .agg [i 1, i 4, i 0, i 0, i 0], .c (o 4460 0 1)), (5, .agg [i 2, i 2, i 0, i 0, i 0], .c (o 4486 0 1)), (6, .agg [i 5, i 3, i 0, i 0, i 0], .c (o 4491 0 1)), (7, .agg [i 1, i 6, i 0, i 0, i 0], .c (o 4516 0 1)), (8, .agg [i 2, i 3, i 0, i 0, i 0], .c (o 4542 0 1)), (9, .agg [i 5, i 4, i 0, i 0, i 0], .c (o 4547 0 1)), (10, .agg [i 1, i 8, i 0, i 0, i 0], .c (o 4572 0 1)), (11, .agg [i 2, i 4, i 0, i 0, i 0], .c (o 4589 0 1))] 12)⟩),
(2911, ⟨[.map 2910, .md 1 (.ofNat 0) true], 155, 0, none⟩),
(4358, ⟨[i 1, i 1, i 0, i 0, i 0], 116, 5, none⟩),
(4404, ⟨[i 2, i 1, i 0, i 0, i 0, i 5, i 0, i 0, i 0, i 0], 116, 5, none⟩),
(4430, ⟨[i 2, i 2, i 0, i 0, i 0], 116, 5, none⟩),
(4435, ⟨[i 1, i 4, i 0, i 0, i 0], 116, 5, none⟩),
(4460, ⟨[i 5, i 1, i 0, i 0, i 0], 116, 5, none⟩),
(4486, ⟨[i 2, i 3, i 0, i 0, i 0], 116, 5, none⟩),
(4491, ⟨[i 1, i 6, i 0, i 0, i 0], 116, 5, none⟩),
(4516, ⟨[i 5, i 2, i 0, i 0, i 0], 116, 5, none⟩),
(4542, ⟨[i 2, i 4, i 0, i 0, i 0], 116, 5, none⟩),
(4547, ⟨[i 1, i 8, i 0, i 0, i 0], 116, 5, none⟩),
(4572, ⟨[i 5, i 3, i 0, i 0, i 0], 116, 5, none⟩),
(4589, ⟨[i 5, i 4, i 0, i 0, i 0], 116, 5, none⟩)]
private noncomputable def m0 : MM := ⟨[48], l0, 75, [⟨48, 0, [.v (.c (.ptr 12 0))], .v (.c (.nili))⟩]⟩
private theorem m0_k : H0.tbl m0 = true := by kernel_rfl
private noncomputable def h1 : HK := H0.memo m0 m0_k
private noncomputable def m1 : MM := ⟨[155], l1, 160, [⟨155, 0, [.v (.c (.ptr 12 0)), .v (.c (i 0))], .tup [.agg [i 0, i 0, i 0], .c (.bool true)]⟩,
⟨155, 1, [.v (.c (.ptr 12 0)), .v (.c (i 1))], .tup [.agg [i 0, i 0, i 1], .c (.bool true)]⟩,
⟨155, 2, [.v (.c (.ptr 12 0)), .v (.c (i 2))], .tup [.agg [i 0, i 0, i 2], .c (.bool true)]⟩,
⟨155, 3, [.v (.c (.ptr 12 0)), .v (.c (i 3))], .tup [.agg [i 0, i 0, i 3], .c (.bool true)]⟩,
⟨155, 4, [.v (.c (.ptr 12 0)), .v (.c (i 4))], .tup [.agg [i 1, i 0, i 0], .c (.bool true)]⟩,
⟨155, 5, [.v (.c (.ptr 12 0)), .v (.c (i 5))], .tup [.agg [i 1, i 0, i 1], .c (.bool true)]⟩,
⟨155, 6, [.v (.c (.ptr 12 0)), .v (.c (i 6))], .tup [.agg [i 2, i 0, i 0], .c (.bool true)]⟩,
⟨155, 7, [.v (.c (.ptr 12 0)), .v (.c (i 7))], .tup [.agg [i 2, i 0, i 1], .c (.bool true)]⟩,
⟨155, 8, [.v (.c (.ptr 12 0)), .v (.c (i 8))], .tup [.agg [i 3, i 0, i 0], .c (.bool true)]⟩,
⟨155, 9, [.v (.c (.ptr 12 0)), .v (.c (i 9))], .tup [.agg [i 3, i 0, i 1], .c (.bool true)]⟩,
⟨155, 10, [.v (.c (.ptr 12 0)), .v (.c (i 10))], .tup [.agg [i 4, i 0, i 0], .c (.bool true)]⟩]⟩
private theorem m1_k : h1.tbl m1 = true := by kernel_rfl
private noncomputable def h2 : HK := h1.memo m1 m1_k
private noncomputable def s1 : RE := ⟨76, [.v (.c (.ptr 12 0))], 75, .v (.c (.ptr 75 0)), [(75, ⟨[o 131 0 5, o 135 0 5, .snil, .snil, .snil, i 15], 230, 0, none⟩),
(81, ⟨[i 0, i 1], 3, 1, none⟩),
(93, ⟨[i 3, i 4], 3, 1, none⟩),
(105, ⟨[i 6, i 7], 3, 1, none⟩),
(117, ⟨[i 9, i 10], 3, 1, none⟩),
(129, ⟨[i 12, i 13], 3, 1, none⟩),
(131, ⟨[o 81 0 2, o 93 0 2, o 105 0 2, o 117 0 2, o 129 0 2], 27, 1, none⟩),
(135, ⟨[i 2, i 5, i 8, i 11, i 14], 3, 1, none⟩)], 213⟩
private theorem s1_k : h2.srp l0 s1 = true := by kernel_rfl
private noncomputable def h3 : HK := h2.srep _ s1 s1_k
private noncomputable def s2 : RE := ⟨49, [.v (.c (.ptr 12 0)), .v (.c (.snil))], 75, .v (.c (.ptr 249 0)), l2, 2313⟩
private theorem s2_k : h3.rep l0 s2 = true := by kernel_rfl
private noncomputable def h4 : HK := h3.repl _ s2 s2_k
private noncomputable def s3 : RE := ⟨151, [.v (.c (.ptr 12 0)), .v (.c (.ptr 249 0)), .v (.c (i 1))], 2437, .v (.c (.snil)), [], 2547⟩
private theorem s3_k : h4.srp l3 s3 = true := by kernel_rfl
private noncomputable def h5 : HK := h4.srep _ s3 s3_k
private noncomputable def s4 : RE := ⟨151, [.v (.c (.ptr 12 0)), .v (.c (.ptr 249 0)), .v (.c (i 4))], 2576, .v (.c (.snil)), [], 2677⟩
private theorem s4_k : h5.srp l3 s4 = true := by kernel_rfl
private noncomputable def h6 : HK := h5.srep _ s4 s4_k
private noncomputable def s5 : RE := ⟨151, [.v (.c (.ptr 12 0)), .v (.c (.ptr 249 0)), .v (.c (i 6))], 2693, .v (.c (.snil)), [], 2785⟩
private theorem s5_k : h6.srp l3 s5 = true := by kernel_rfl
private noncomputable def h7 : HK := h6.srep _ s5 s5_k
private noncomputable def s6 : RE := ⟨151, [.v (.c (.ptr 12 0)), .v (.c (.ptr 249 0)), .v (.c (i 8))], 2801, .v (.c (.snil)), [], 2884⟩
private theorem s6_k : h7.srp l3 s6 = true := by kernel_rfl
private noncomputable def h8 : HK := h7.srep _ s6 s6_k
private noncomputable def s7 : RE := ⟨85, [.v (.c (.ptr 12 0)), .v (.c (.ptr 249 0)), .v (.c (i 0))], 2913, .v (.c (.snil)), [], 3143⟩
private theorem s7_k : h8.srp l3 s7 = true := by kernel_rfl
private noncomputable def h9 : HK := h8.srep _ s7 s7_k
private noncomputable def s8 : RE := ⟨86, [.v (.c (.ptr 12 0)), .v (.c (.ptr 249 0)), .v (.c (i 0))], 3145, .v (.c (.snil)), [], 3260⟩
private theorem s8_k : h9.srp l3 s8 = true := by kernel_rfl
private noncomputable def h10 : HK := h9.srep _ s8 s8_k
private noncomputable def s9 : RE := ⟨85, [.v (.c (.ptr 12 0)), .v (.c (.ptr 249 0)), .v (.c (i 1))], 3262, .v (.c (.snil)), [], 3458⟩
private theorem s9_k : h10.srp l3 s9 = true := by kernel_rfl
private noncomputable def h11 : HK := h10.srep _ s9 s9_k
private noncomputable def s10 : RE := ⟨86, [.v (.c (.ptr 12 0)), .v (.c (.ptr 249 0)), .v (.c (i 1))], 3460, .v (.c (.snil)), [], 3558⟩
private theorem s10_k : h11.srp l3 s10 = true := by kernel_rfl
private noncomputable def h12 : HK := h11.srep _ s10 s10_k
private noncomputable def s11 : RE := ⟨85, [.v (.c (.ptr 12 0)), .v (.c (.ptr 249 0)), .v (.c (i 2))], 3560, .v (.c (.snil)), [], 3738⟩
private theorem s11_k : h12.srp l3 s11 = true := by kernel_rfl
private noncomputable def h13 : HK := h12.srep _ s11 s11_k
private noncomputable def s12 : RE := ⟨86, [.v (.c (.ptr 12 0)), .v (.c (.ptr 249 0)), .v (.c (i 2))], 3740, .v (.c (.snil)), [], 3829⟩
private theorem s12_k : h13.srp l3 s12 = true := by kernel_rfl
private noncomputable def h14 : HK := h13.srep _ s12 s12_k
private noncomputable def s13 : RE := ⟨85, [.v (.c (.ptr 12 0)), .v (.c (.ptr 249 0)), .v (.c (i 3))], 3831, .v (.c (.snil)), [], 3991⟩
private theorem s13_k : h14.srp l3 s13 = true := by kernel_rfl
private noncomputable def h15 : HK := h14.srep _ s13 s13_k
private noncomputable def s14 : RE := ⟨86, [.v (.c (.ptr 12 0)), .v (.c (.ptr 249 0)), .v (.c (i 3))], 3993, .v (.c (.snil)), [], 4073⟩
private theorem s14_k : h15.srp l3 s14 = true := by kernel_rfl
private noncomputable def h16 : HK := h15.srep _ s14 s14_k
private noncomputable def s15 : RE := ⟨85, [.v (.c (.ptr 12 0)), .v (.c (.ptr 249 0)), .v (.c (i 4))], 4075, .v (.c (.snil)), [], 4217⟩
private theorem s15_k : h16.srp l3 s15 = true := by kernel_rfl
private noncomputable def h17 : HK := h16.srep _ s15 s15_k
private noncomputable def s16 : RE := ⟨86, [.v (.c (.ptr 12 0)), .v (.c (.ptr 249 0)), .v (.c (i 4))], 4219, .v (.c (.snil)), [], 4290⟩
private theorem s16_k : h17.srp l3 s16 = true := by kernel_rfl
private noncomputable def h18 : HK := h17.srep _ s16 s16_k
private noncomputable def s17 : RE := ⟨50, [.v (.c (.ptr 12 0)), .v (.c (.ptr 249 0))], 2313, .v (.c (.ptr 2911 0)), l4, 4591⟩
private theorem s17_k : h18.rep l3 s17 = true := by kernel_rfl
private noncomputable def h19 : HK := h18.repl _ s17 s17_k
theorem TopTaintCalls_3_f_run : isBool true (runW h19.K 4 [mi 10 3, ab false] s0) = true := by kernel_rfl
theorem TopTaintCalls_3_f_law {args : Array Value} (ha : VAs (fun _ => none) [mi 10 3, ab false] args.toList) (w : World) (hT : Tab w) :
    Calls Tryz.prog 4 args w fun e w' => Below w.heap.size w w' ∧ e = .returned (.bool true) := h19.law TopTaintCalls_3_f_run ha w hT
end Go.Proofs.YteajpblmbmncdaaGreatDoor
