/- Tables of calls, and a run that uses them. -/
import Derived.Test.YteajpblmbmncdaaGreatDoorLn
namespace Go.Proofs.YteajpblmbmncdaaGreatDoor
open Go Go.RowKit Ev
set_option maxRecDepth 100000
set_option linter.unusedVariables false
private noncomputable abbrev i (n : Nat) : CV := .int .i64 (.ofNat n)
private noncomputable abbrev o (b a n : Nat) : CV := .slice b a n (.opn 0)
private noncomputable abbrev f (b a n : Nat) : CV := .slice b a n (.fix n)
private noncomputable abbrev e (k t : Nat) : Nat × BK := (k, ⟨[.snil], t, 0, none⟩)
private noncomputable abbrev l0 : Bls := [(1, ⟨[i 0, i 0, i 0, i 0, i 1, i 0], 69, 0, none⟩),
(2, ⟨[f 1 0 3], 47, 0, none⟩),
(4, ⟨[i 1, i 0], 69, 0, none⟩),
(5, ⟨[i 0, i 0], 69, 0, none⟩),
(7, ⟨[i 1, i 0], 69, 0, none⟩),
(9, ⟨[.snil, i 0, i 0, f 4 0 1, i 0, i 0, f 5 0 1, i 0, i 0, f 7 0 1, i 1, i 0], 72, 0, none⟩),
(10, ⟨[i 0], 3, 0, none⟩),
(11, ⟨[f 10 0 1], 74, 0, none⟩),
(12, ⟨[f 2 0 1, f 9 0 4, f 11 0 1, .snil, o 63 0 4, i 0], 57, 0, none⟩),
(20, ⟨[i 0, i 0, i 1, i 0], 69, 2, none⟩),
(21, ⟨[o 31 0 3, i 3, i 0, i 0, i 0], 46, 0, none⟩),
(28, ⟨[i 1], 3, 0, none⟩),
(31, ⟨[i 1, i 0, i 0, i 0, i 1, .snil, i 4, i 1, i 0, i 0, i 0, .snil, i 12, i 0, i 0, i 0, i 1, f 28 0 1], 29, 6, none⟩),
(36, ⟨[i 1, i 0, i 0, i 0], 69, 2, none⟩),
(37, ⟨[o 43 0 1, i 3, i 1, i 0, i 0], 46, 0, none⟩),
(40, ⟨[i 0], 3, 0, none⟩),
(43, ⟨[i 12, i 1, i 0, i 0, i 2, f 40 0 1], 29, 6, none⟩),
(48, ⟨[i 1, i 0, i 0, i 0], 69, 2, none⟩),
(49, ⟨[o 55 0 1, i 3, i 1, i 0, i 0], 46, 0, none⟩),
(52, ⟨[i 0], 3, 0, none⟩),
(55, ⟨[i 12, i 1, i 0, i 0, i 3, f 52 0 1], 29, 6, none⟩),
(60, ⟨[i 1, i 0, i 0, i 0], 69, 2, none⟩),
(61, ⟨[o 66 0 1, i 3, i 1, i 0, i 0], 46, 0, none⟩),
(63, ⟨[i 0, o 20 0 2, f 21 0 1, i 1, o 36 0 2, f 37 0 1, i 1, o 48 0 2, f 49 0 1, i 1, o 60 0 2, f 61 0 1], 50, 3, none⟩),
(66, ⟨[i 7, i 1, i 0, i 0, i 0, .snil], 29, 6, none⟩)]
private noncomputable abbrev l1 : Bls := [(12, ⟨[f 2 0 1, f 9 0 4, f 11 0 1, .snil, o 63 0 4, i 0], 57, 0, none⟩),
(21, ⟨[o 31 0 3, i 3, i 0, i 0, i 0], 46, 0, none⟩),
(37, ⟨[o 43 0 1, i 3, i 1, i 0, i 0], 46, 0, none⟩),
(49, ⟨[o 55 0 1, i 3, i 1, i 0, i 0], 46, 0, none⟩),
(61, ⟨[o 66 0 1, i 3, i 1, i 0, i 0], 46, 0, none⟩),
(63, ⟨[i 0, o 20 0 2, f 21 0 1, i 1, o 36 0 2, f 37 0 1, i 1, o 48 0 2, f 49 0 1, i 1, o 60 0 2, f 61 0 1], 50, 3, none⟩)]
private noncomputable abbrev l2 : Bls := [(90, ⟨[o 134 0 4, o 138 0 4, .snil, .snil, .snil, i 12], 230, 0, none⟩),
(96, ⟨[i 0, i 1], 3, 1, none⟩),
(108, ⟨[i 3, i 4], 3, 1, none⟩),
(120, ⟨[i 6, i 7], 3, 1, none⟩),
(132, ⟨[i 9, i 10], 3, 1, none⟩),
(134, ⟨[o 96 0 2, o 108 0 2, o 120 0 2, o 132 0 2], 27, 1, none⟩),
(138, ⟨[i 2, i 5, i 8, i 11], 3, 1, none⟩),
(209, ⟨[o 233 0 12], 233, 0, none⟩),
(233, ⟨[i 0, i 1, i 2, i 3, i 4, i 5, i 6, i 7, i 8, i 9, i 10, i 11], 3, 1, none⟩),
(234, ⟨[.snil, .snil, .snil, .snil, .snil, .snil, .snil, .snil, .snil, .snil, .snil, .snil], 238, 0, none⟩),
(235, ⟨[o 349 0 1], 139, 0, none⟩),
(236, ⟨[], 0, 0, some (.map [(0, .agg [i 2, i 1], .c (.bool true)), (1, .agg [i 4, i 2], .c (.bool true)), (2, .agg [i 6, i 3], .c (.bool true))] 3)⟩),
(237, ⟨[], 0, 0, some (.map [] 0)⟩),
(238, ⟨[.snil, .snil, .map 237, i 0], 237, 0, none⟩),
(239, ⟨[.ptr 12 0, .ptr 90 0, .ptr 209 0, o 341 0 12, o 344 0 12, o 347 0 12, f 234 0 12, .ptr 235 0, .map 236, .ptr 238 0], 145, 0, none⟩),
e 240 139,
e 243 139,
e 246 139,
e 249 139,
e 252 139,
(255, ⟨[o 536 0 1], 139, 0, none⟩),
e 258 139,
e 261 139,
e 264 139,
e 267 139,
e 270 139,
(273, ⟨[o 877 0 1], 139, 0, none⟩),
e 276 139,
e 279 139,
e 282 139,
e 285 139,
e 288 139,
e 291 139,
e 294 139,
e 297 139,
(300, ⟨[o 1228 0 1], 139, 0, none⟩),
e 303 139,
e 306 139,
e 309 139,
e 312 139,
e 315 139,
e 318 139,
e 321 139,
e 324 139,
e 327 139,
e 330 139,
e 333 139,
e 336 139,
e 339 139,
(341, ⟨[.ptr 240 0, .ptr 249 0, .ptr 258 0, .ptr 267 0, .ptr 276 0, .ptr 285 0, .ptr 294 0, .ptr 303 0, .ptr 312 0, .ptr 321 0, .ptr 330 0, .ptr 339 0], 136, 1, none⟩),
e 342 139,
(344, ⟨[.ptr 243 0, .ptr 252 0, .ptr 261 0, .ptr 270 0, .ptr 279 0, .ptr 288 0, .ptr 297 0, .ptr 306 0, .ptr 315 0, .ptr 324 0, .ptr 333 0, .ptr 342 0], 136, 1, none⟩),
e 345 139,
(347, ⟨[.ptr 246 0, .ptr 255 0, .ptr 264 0, .ptr 273 0, .ptr 282 0, .ptr 291 0, .ptr 300 0, .ptr 309 0, .ptr 318 0, .ptr 327 0, .ptr 336 0, .ptr 345 0], 136, 1, none⟩),
(349, ⟨[.int .u64 (.ofNat 15)], 224, 1, none⟩),
(536, ⟨[.int .u64 (.ofNat 8)], 224, 1, none⟩),
(877, ⟨[.int .u64 (.ofNat 64)], 224, 1, none⟩),
(1228, ⟨[.int .u64 (.ofNat 512)], 224, 1, none⟩)]
private noncomputable abbrev l3 : Bls := [(1, ⟨[i 0, i 0, i 0, i 0, i 1, i 0], 69, 0, none⟩),
(2, ⟨[f 1 0 3], 47, 0, none⟩),
(4, ⟨[i 1, i 0], 69, 0, none⟩),
(5, ⟨[i 0, i 0], 69, 0, none⟩),
(7, ⟨[i 1, i 0], 69, 0, none⟩),
(9, ⟨[.snil, i 0, i 0, f 4 0 1, i 0, i 0, f 5 0 1, i 0, i 0, f 7 0 1, i 1, i 0], 72, 0, none⟩),
(10, ⟨[i 0], 3, 0, none⟩),
(11, ⟨[f 10 0 1], 74, 0, none⟩),
(12, ⟨[f 2 0 1, f 9 0 4, f 11 0 1, .snil, o 63 0 4, i 0], 57, 0, none⟩),
(20, ⟨[i 0, i 0, i 1, i 0], 69, 2, none⟩),
(21, ⟨[o 31 0 3, i 3, i 0, i 0, i 0], 46, 0, none⟩),
(28, ⟨[i 1], 3, 0, none⟩),
(31, ⟨[i 1, i 0, i 0, i 0, i 1, .snil, i 4, i 1, i 0, i 0, i 0, .snil, i 12, i 0, i 0, i 0, i 1, f 28 0 1], 29, 6, none⟩),
(36, ⟨[i 1, i 0, i 0, i 0], 69, 2, none⟩),
(37, ⟨[o 43 0 1, i 3, i 1, i 0, i 0], 46, 0, none⟩),
(40, ⟨[i 0], 3, 0, none⟩),
(43, ⟨[i 12, i 1, i 0, i 0, i 2, f 40 0 1], 29, 6, none⟩),
(48, ⟨[i 1, i 0, i 0, i 0], 69, 2, none⟩),
(49, ⟨[o 55 0 1, i 3, i 1, i 0, i 0], 46, 0, none⟩),
(52, ⟨[i 0], 3, 0, none⟩),
(55, ⟨[i 12, i 1, i 0, i 0, i 3, f 52 0 1], 29, 6, none⟩),
(60, ⟨[i 1, i 0, i 0, i 0], 69, 2, none⟩),
(61, ⟨[o 66 0 1, i 3, i 1, i 0, i 0], 46, 0, none⟩),
(63, ⟨[i 0, o 20 0 2, f 21 0 1, i 1, o 36 0 2, f 37 0 1, i 1, o 48 0 2, f 49 0 1, i 1, o 60 0 2, f 61 0 1], 50, 3, none⟩),
(66, ⟨[i 7, i 1, i 0, i 0, i 0, .snil], 29, 6, none⟩),
(90, ⟨[o 134 0 4, o 138 0 4, .snil, .snil, .snil, i 12], 230, 0, none⟩),
(96, ⟨[i 0, i 1], 3, 1, none⟩),
(108, ⟨[i 3, i 4], 3, 1, none⟩),
(120, ⟨[i 6, i 7], 3, 1, none⟩),
(132, ⟨[i 9, i 10], 3, 1, none⟩),
(134, ⟨[o 96 0 2, o 108 0 2, o 120 0 2, o 132 0 2], 27, 1, none⟩),
(138, ⟨[i 2, i 5, i 8, i 11], 3, 1, none⟩),
(209, ⟨[o 233 0 12], 233, 0, none⟩),
(233, ⟨[i 0, i 1, i 2, i 3, i 4, i 5, i 6, i 7, i 8, i 9, i 10, i 11], 3, 1, none⟩),
(234, ⟨[.snil, .snil, .snil, .snil, .snil, .snil, .snil, .snil, .snil, .snil, .snil, .snil], 238, 0, none⟩),
(235, ⟨[o 349 0 1], 139, 0, none⟩),
(236, ⟨[], 0, 0, some (.map [(0, .agg [i 2, i 1], .c (.bool true)), (1, .agg [i 4, i 2], .c (.bool true)), (2, .agg [i 6, i 3], .c (.bool true))] 3)⟩),
(237, ⟨[], 0, 0, some (.map [] 0)⟩),
(238, ⟨[.snil, .snil, .map 237, i 0], 237, 0, none⟩),
(239, ⟨[.ptr 12 0, .ptr 90 0, .ptr 209 0, o 341 0 12, o 344 0 12, o 347 0 12, f 234 0 12, .ptr 235 0, .map 236, .ptr 238 0], 145, 0, none⟩),
e 240 139,
e 243 139,
e 246 139,
e 249 139,
e 252 139,
(255, ⟨[o 536 0 1], 139, 0, none⟩),
e 258 139,
e 261 139,
e 264 139,
e 267 139,
e 270 139,
(273, ⟨[o 877 0 1], 139, 0, none⟩),
e 276 139,
e 279 139,
e 282 139,
e 285 139,
e 288 139,
e 291 139,
e 294 139,
e 297 139,
(300, ⟨[o 1228 0 1], 139, 0, none⟩),
e 303 139,
e 306 139,
e 309 139,
e 312 139,
e 315 139,
e 318 139,
e 321 139,
e 324 139,
e 327 139,
e 330 139,
e 333 139,
e 336 139,
e 339 139,
(341, ⟨[.ptr 240 0, .ptr 249 0, .ptr 258 0, .ptr 267 0, .ptr 276 0, .ptr 285 0, .ptr 294 0, .ptr 303 0, .ptr 312 0, .ptr 321 0, .ptr 330 0, .ptr 339 0], 136, 1, none⟩),
e 342 139,
(344, ⟨[.ptr 243 0, .ptr 252 0, .ptr 261 0, .ptr 270 0, .ptr 279 0, .ptr 288 0, .ptr 297 0, .ptr 306 0, .ptr 315 0, .ptr 324 0, .ptr 333 0, .ptr 342 0], 136, 1, none⟩),
e 345 139,
(347, ⟨[.ptr 246 0, .ptr 255 0, .ptr 264 0, .ptr 273 0, .ptr 282 0, .ptr 291 0, .ptr 300 0, .ptr 309 0, .ptr 318 0, .ptr 327 0, .ptr 336 0, .ptr 345 0], 136, 1, none⟩),
(349, ⟨[.int .u64 (.ofNat 15)], 224, 1, none⟩),
(536, ⟨[.int .u64 (.ofNat 8)], 224, 1, none⟩),
(877, ⟨[.int .u64 (.ofNat 64)], 224, 1, none⟩),
(1228, ⟨[.int .u64 (.ofNat 512)], 224, 1, none⟩)]
private noncomputable abbrev l4 : Bls := [(2186, ⟨[], 0, 0, some (.map [(0, .agg [i 1, i 1, i 0, i 0, i 0], .c (o 3292 0 1)), (1, .agg [i 5, i 1, i 0, i 0, i 0], .c (o 3297 0 1)), (2, .agg [i 1, i 2, i 0, i 0, i 0], .c (o 3322 0 1)), (3, .agg [i 2, i 1, i 0, i 0, i 0], .c (o 3347 0 1)), (4, .agg [i 5, i 2, i 0, i 0, i 0], .c (o 3352 0 1)), (5, .agg [i 1, i 4, i 0, i 0, i 0], .c (o 3377 0 1)), (6, .agg [i 2, i 2, i 0, i 0, i 0], .c (o 3402 0 1)), (7, .agg [i 5, i 3, i 0, i 0, i 0], .c (o 3407 0 1)), (8, .agg [i 1, i 6, i 0, i 0, i 0], .c (o 3432 0 1)), (9, .agg [i 1, i 8, i 0, i 0, i 0], .c (o 3468 0 1))] 10)⟩),
(2187, ⟨[.map 2186, .md 1 (.ofNat 0) true], 155, 0, none⟩),
(3292, ⟨[i 2, i 1, i 0, i 0, i 0], 116, 5, none⟩),
(3297, ⟨[i 1, i 2, i 0, i 0, i 0], 116, 5, none⟩),
(3322, ⟨[i 5, i 0, i 0, i 0, i 0], 116, 5, none⟩),
(3347, ⟨[i 2, i 2, i 0, i 0, i 0], 116, 5, none⟩),
(3352, ⟨[i 1, i 4, i 0, i 0, i 0], 116, 5, none⟩),
(3377, ⟨[i 5, i 1, i 0, i 0, i 0], 116, 5, none⟩),
(3402, ⟨[i 2, i 3, i 0, i 0, i 0], 116, 5, none⟩),
(3407, ⟨[i 1, i 6, i 0, i 0, i 0], 116, 5, none⟩),
(3432, ⟨[i 5, i 2, i 0, i 0, i 0], 116, 5, none⟩),
(3468, ⟨[i 5, i 3, i 0, i 0, i 0], 116, 5, none⟩)]
private noncomputable def m0 : MM := ⟨[48], l0, 90, [⟨48, 0, [.v (.c (.ptr 12 0))], .v (.c (.nili))⟩]⟩
private theorem m0_k : H0.tbl m0 = true := by kernel_rfl
private noncomputable def h1 : HK := H0.memo m0 m0_k
private noncomputable def m1 : MM := ⟨[155], l1, 161, [⟨155, 0, [.v (.c (.ptr 12 0)), .v (.c (i 0))], .tup [.agg [i 0, i 0, i 0], .c (.bool true)]⟩,
⟨155, 1, [.v (.c (.ptr 12 0)), .v (.c (i 1))], .tup [.agg [i 0, i 0, i 1], .c (.bool true)]⟩,
⟨155, 2, [.v (.c (.ptr 12 0)), .v (.c (i 2))], .tup [.agg [i 0, i 0, i 2], .c (.bool true)]⟩,
⟨155, 3, [.v (.c (.ptr 12 0)), .v (.c (i 3))], .tup [.agg [i 0, i 0, i 3], .c (.bool true)]⟩,
⟨155, 4, [.v (.c (.ptr 12 0)), .v (.c (i 4))], .tup [.agg [i 1, i 0, i 0], .c (.bool true)]⟩,
⟨155, 5, [.v (.c (.ptr 12 0)), .v (.c (i 5))], .tup [.agg [i 1, i 0, i 1], .c (.bool true)]⟩,
⟨155, 6, [.v (.c (.ptr 12 0)), .v (.c (i 6))], .tup [.agg [i 2, i 0, i 0], .c (.bool true)]⟩,
⟨155, 7, [.v (.c (.ptr 12 0)), .v (.c (i 7))], .tup [.agg [i 2, i 0, i 1], .c (.bool true)]⟩,
⟨155, 8, [.v (.c (.ptr 12 0)), .v (.c (i 8))], .tup [.agg [i 3, i 0, i 0], .c (.bool true)]⟩,
⟨155, 9, [.v (.c (.ptr 12 0)), .v (.c (i 9))], .tup [.agg [i 3, i 0, i 1], .c (.bool true)]⟩]⟩
private theorem m1_k : h1.tbl m1 = true := by kernel_rfl
private noncomputable def h2 : HK := h1.memo m1 m1_k
private noncomputable def s1 : RE := ⟨76, [.v (.c (.ptr 12 0))], 90, .v (.c (.ptr 90 0)), [(90, ⟨[o 134 0 4, o 138 0 4, .snil, .snil, .snil, i 12], 230, 0, none⟩),
(96, ⟨[i 0, i 1], 3, 1, none⟩),
(108, ⟨[i 3, i 4], 3, 1, none⟩),
(120, ⟨[i 6, i 7], 3, 1, none⟩),
(132, ⟨[i 9, i 10], 3, 1, none⟩),
(134, ⟨[o 96 0 2, o 108 0 2, o 120 0 2, o 132 0 2], 27, 1, none⟩),
(138, ⟨[i 2, i 5, i 8, i 11], 3, 1, none⟩)], 209⟩
private theorem s1_k : h2.srp l0 s1 = true := by kernel_rfl
private noncomputable def h3 : HK := h2.srep _ s1 s1_k
private noncomputable def s2 : RE := ⟨49, [.v (.c (.ptr 12 0)), .v (.c (.snil))], 90, .v (.c (.ptr 239 0)), l2, 1726⟩
private theorem s2_k : h3.rep l0 s2 = true := by kernel_rfl
private noncomputable def h4 : HK := h3.repl _ s2 s2_k
private noncomputable def s3 : RE := ⟨151, [.v (.c (.ptr 12 0)), .v (.c (.ptr 239 0)), .v (.c (i 2))], 1851, .v (.c (.snil)), [], 1948⟩
private theorem s3_k : h4.srp l3 s3 = true := by kernel_rfl
private noncomputable def h5 : HK := h4.srep _ s3 s3_k
private noncomputable def s4 : RE := ⟨151, [.v (.c (.ptr 12 0)), .v (.c (.ptr 239 0)), .v (.c (i 4))], 1964, .v (.c (.snil)), [], 2052⟩
private theorem s4_k : h5.srp l3 s4 = true := by kernel_rfl
private noncomputable def h6 : HK := h5.srep _ s4 s4_k
private noncomputable def s5 : RE := ⟨151, [.v (.c (.ptr 12 0)), .v (.c (.ptr 239 0)), .v (.c (i 6))], 2068, .v (.c (.snil)), [], 2147⟩
private theorem s5_k : h6.srp l3 s5 = true := by kernel_rfl
private noncomputable def h7 : HK := h6.srep _ s5 s5_k
private noncomputable def s6 : RE := ⟨85, [.v (.c (.ptr 12 0)), .v (.c (.ptr 239 0)), .v (.c (i 0))], 2189, .v (.c (.snil)), [], 2400⟩
private theorem s6_k : h7.srp l3 s6 = true := by kernel_rfl
private noncomputable def h8 : HK := h7.srep _ s6 s6_k
private noncomputable def s7 : RE := ⟨86, [.v (.c (.ptr 12 0)), .v (.c (.ptr 239 0)), .v (.c (i 0))], 2402, .v (.c (.snil)), [], 2505⟩
private theorem s7_k : h8.srp l3 s7 = true := by kernel_rfl
private noncomputable def h9 : HK := h8.srep _ s7 s7_k
private noncomputable def s8 : RE := ⟨85, [.v (.c (.ptr 12 0)), .v (.c (.ptr 239 0)), .v (.c (i 1))], 2507, .v (.c (.snil)), [], 2684⟩
private theorem s8_k : h9.srp l3 s8 = true := by kernel_rfl
private noncomputable def h10 : HK := h9.srep _ s8 s8_k
private noncomputable def s9 : RE := ⟨86, [.v (.c (.ptr 12 0)), .v (.c (.ptr 239 0)), .v (.c (i 1))], 2686, .v (.c (.snil)), [], 2772⟩
private theorem s9_k : h10.srp l3 s9 = true := by kernel_rfl
private noncomputable def h11 : HK := h10.srep _ s9 s9_k
private noncomputable def s10 : RE := ⟨85, [.v (.c (.ptr 12 0)), .v (.c (.ptr 239 0)), .v (.c (i 2))], 2774, .v (.c (.snil)), [], 2933⟩
private theorem s10_k : h11.srp l3 s10 = true := by kernel_rfl
private noncomputable def h12 : HK := h11.srep _ s10 s10_k
private noncomputable def s11 : RE := ⟨86, [.v (.c (.ptr 12 0)), .v (.c (.ptr 239 0)), .v (.c (i 2))], 2935, .v (.c (.snil)), [], 3012⟩
private theorem s11_k : h12.srp l3 s11 = true := by kernel_rfl
private noncomputable def h13 : HK := h12.srep _ s11 s11_k
private noncomputable def s12 : RE := ⟨85, [.v (.c (.ptr 12 0)), .v (.c (.ptr 239 0)), .v (.c (i 3))], 3014, .v (.c (.snil)), [], 3155⟩
private theorem s12_k : h13.srp l3 s12 = true := by kernel_rfl
private noncomputable def h14 : HK := h13.srep _ s12 s12_k
private noncomputable def s13 : RE := ⟨86, [.v (.c (.ptr 12 0)), .v (.c (.ptr 239 0)), .v (.c (i 3))], 3157, .v (.c (.snil)), [], 3225⟩
private theorem s13_k : h14.srp l3 s13 = true := by kernel_rfl
private noncomputable def h15 : HK := h14.srep _ s13 s13_k
private noncomputable def s14 : RE := ⟨50, [.v (.c (.ptr 12 0)), .v (.c (.ptr 239 0))], 1726, .v (.c (.ptr 2187 0)), l4, 3470⟩
private theorem s14_k : h15.rep l3 s14 = true := by kernel_rfl
private noncomputable def h16 : HK := h15.repl _ s14 s14_k
theorem TopNilParam_2_t_run : isBool true (runW h16.K 12 [mi 8 2, ab true] s0) = true := by kernel_rfl
theorem TopNilParam_2_t_law {args : Array Value} (ha : VAs (fun _ => none) [mi 8 2, ab true] args.toList) (w : World) (hT : Tab w) :
    Calls Tryz.prog 12 args w fun e w' => Below w.heap.size w w' ∧ e = .returned (.bool true) := h16.law TopNilParam_2_t_run ha w hT
end Go.Proofs.YteajpblmbmncdaaGreatDoor
