/- Tables of calls, and a run that uses them. -/
import Derived.Test.YteajpblmbmncdaaGreatDoorLn
namespace Go.Proofs.YteajpblmbmncdaaGreatDoor
open Go Go.RowKit Ev
set_option maxRecDepth 100000
set_option linter.unusedVariables false
private noncomputable abbrev i (n : Nat) : CV := .int .i64 (.ofNat n)
private noncomputable abbrev o (b a n : Nat) : CV := .slice b a n (.opn 0)
private noncomputable abbrev f (b a n : Nat) : CV := .slice b a n (.fix n)
private noncomputable abbrev e (k t : Nat) : Nat × BK := (k, ⟨[.snil], t, 0, none⟩)
private noncomputable abbrev TopSwap_5_f_l0 : Bls := [(1, ⟨[i 0, i 0, i 0, i 0, i 1, i 0], 69, 0, none⟩),
(2, ⟨[f 1 0 3], 47, 0, none⟩),
(4, ⟨[i 1, i 0], 69, 0, none⟩),
(5, ⟨[i 0, i 0], 69, 0, none⟩),
(7, ⟨[i 1, i 0], 69, 0, none⟩),
(9, ⟨[.snil, i 0, i 0, f 4 0 1, i 0, i 0, f 5 0 1, i 0, i 0, f 7 0 1, i 1, i 0], 72, 0, none⟩),
(10, ⟨[i 0], 3, 0, none⟩),
(11, ⟨[f 10 0 1], 74, 0, none⟩),
(12, ⟨[f 2 0 1, f 9 0 4, f 11 0 1, .snil, o 32 0 1, i 0], 57, 0, none⟩),
(29, ⟨[i 0, i 0, i 1, i 0, i 1, i 0, i 1, i 0, i 1, i 0], 69, 2, none⟩),
(30, ⟨[o 69 0 21, i 3, i 0, i 0, i 0], 46, 0, none⟩),
(32, ⟨[i 0, o 29 0 5, f 30 0 1], 50, 3, none⟩),
(69, ⟨[i 1, i 0, i 0, i 0, i 1, .snil, i 5, i 1, i 0, i 0, i 0, .snil, i 5, i 2, i 0, i 0, i 0, .snil, i 6, i 4, i 2, i 0, i 0, .snil, i 9, i 0, i 4, i 0, i 0, .snil, i 6, i 3, i 1, i 0, i 0, .snil, i 6, i 1, i 2, i 0, i 0, .snil, i 6, i 2, i 3, i 0, i 0, .snil, i 6, i 3, i 1, i 0, i 0, .snil, i 6, i 1, i 2, i 0, i 0, .snil, i 6, i 2, i 3, i 0, i 0, .snil, i 6, i 3, i 1, i 0, i 0, .snil, i 6, i 1, i 2, i 0, i 0, .snil, i 6, i 2, i 3, i 0, i 0, .snil, i 6, i 3, i 1, i 0, i 0, .snil, i 6, i 1, i 2, i 0, i 0, .snil, i 6, i 2, i 3, i 0, i 0, .snil, i 6, i 3, i 1, i 0, i 0, .snil, i 6, i 1, i 2, i 0, i 0, .snil, i 6, i 2, i 3, i 0, i 0, .snil, i 8, i 0, i 1, i 0, i 0, .snil], 29, 6, none⟩)]
private noncomputable abbrev TopSwap_5_f_l1 : Bls := [(70, ⟨[o 84 0 1, o 88 0 1, o 173 0 2, o 162 0 2, o 164 0 2, i 12], 230, 0, none⟩),
(82, ⟨[i 0, i 1, i 2, i 3, i 4], 3, 1, none⟩),
(84, ⟨[o 82 0 5], 27, 1, none⟩),
(88, ⟨[i 5], 3, 1, none⟩),
(153, ⟨[i 6, i 7, i 8], 3, 1, none⟩),
(162, ⟨[i 1, i 2], 3, 1, none⟩),
(164, ⟨[i 0, i 0], 3, 1, none⟩),
(171, ⟨[i 9, i 10, i 11], 3, 1, none⟩),
(173, ⟨[o 153 0 3, o 171 0 3], 27, 1, none⟩),
(269, ⟨[o 293 0 12], 233, 0, none⟩),
(293, ⟨[i 0, i 1, i 2, i 3, i 4, i 5, i 6, i 7, i 8, i 9, i 10, i 11], 3, 1, none⟩),
(294, ⟨[.snil, .snil, .snil, .snil, .snil, .snil, .snil, .snil, .snil, .snil, .snil, .snil], 238, 0, none⟩),
(295, ⟨[o 409 0 1], 139, 0, none⟩),
(296, ⟨[], 0, 0, some (.map [] 0)⟩),
(297, ⟨[], 0, 0, some (.map [] 4)⟩),
(298, ⟨[.snil, o 921 0 0, .map 297, i 4], 237, 0, none⟩),
(299, ⟨[.ptr 12 0, .ptr 70 0, .ptr 269 0, o 401 0 12, o 404 0 12, o 407 0 12, f 294 0 12, .ptr 295 0, .map 296, .ptr 298 0], 145, 0, none⟩),
e 300 139,
e 303 139,
e 306 139,
(309, ⟨[o 893 0 1], 139, 0, none⟩),
(315, ⟨[o 917 0 1], 139, 0, none⟩),
(318, ⟨[o 903 0 1], 139, 0, none⟩),
(324, ⟨[o 909 0 1], 139, 0, none⟩),
(327, ⟨[o 919 0 1], 139, 0, none⟩),
(333, ⟨[o 927 0 1], 139, 0, none⟩),
(336, ⟨[o 911 0 1], 139, 0, none⟩),
e 342 139,
e 345 139,
e 348 139,
e 351 139,
e 354 139,
e 357 139,
e 360 139,
e 363 139,
e 366 139,
e 369 139,
e 372 139,
e 375 139,
e 378 139,
e 381 139,
e 384 139,
e 387 139,
e 390 139,
e 393 139,
e 396 139,
e 399 139,
(401, ⟨[.ptr 300 0, .ptr 309 0, .ptr 318 0, .ptr 327 0, .ptr 336 0, .ptr 345 0, .ptr 354 0, .ptr 363 0, .ptr 372 0, .ptr 381 0, .ptr 390 0, .ptr 399 0], 136, 1, none⟩),
e 402 139,
(404, ⟨[.ptr 303 0, .ptr 1111 0, .ptr 1119 0, .ptr 1135 0, .ptr 1129 0, .ptr 348 0, .ptr 357 0, .ptr 366 0, .ptr 375 0, .ptr 384 0, .ptr 393 0, .ptr 402 0], 136, 1, none⟩),
e 405 139,
(407, ⟨[.ptr 306 0, .ptr 315 0, .ptr 324 0, .ptr 333 0, .ptr 342 0, .ptr 351 0, .ptr 360 0, .ptr 369 0, .ptr 378 0, .ptr 387 0, .ptr 396 0, .ptr 405 0], 136, 1, none⟩),
(409, ⟨[.int .u64 (.ofNat 1)], 224, 1, none⟩),
(893, ⟨[.int .u64 (.ofNat 3)], 224, 1, none⟩),
(903, ⟨[.int .u64 (.ofNat 3)], 224, 1, none⟩),
(909, ⟨[.int .u64 (.ofNat 18)], 224, 1, none⟩),
(911, ⟨[.int .u64 (.ofNat 3)], 224, 1, none⟩),
(917, ⟨[.int .u64 (.ofNat 8)], 224, 1, none⟩),
(919, ⟨[.int .u64 (.ofNat 3)], 224, 1, none⟩),
(921, ⟨[i 0, i 0, i 0, i 0], 3, 1, none⟩),
(927, ⟨[.int .u64 (.ofNat 4)], 224, 1, none⟩),
(1110, ⟨[.int .u64 (.ofNat 3)], 224, 1, none⟩),
(1111, ⟨[o 1110 0 1], 139, 0, none⟩),
(1118, ⟨[.int .u64 (.ofNat 3)], 224, 1, none⟩),
(1119, ⟨[o 1118 0 1], 139, 0, none⟩),
(1128, ⟨[.int .u64 (.ofNat 3)], 224, 1, none⟩),
(1129, ⟨[o 1128 0 1], 139, 0, none⟩),
(1134, ⟨[.int .u64 (.ofNat 3)], 224, 1, none⟩),
(1135, ⟨[o 1134 0 1], 139, 0, none⟩)]
noncomputable def TopSwap_5_f_m0 : MM := ⟨[48], TopSwap_5_f_l0, 70, [⟨48, 0, [.v (.c (.ptr 12 0))], .v (.c (.nili))⟩]⟩
theorem TopSwap_5_f_m0_ok : H0.tbl TopSwap_5_f_m0 = true := by kernel_rfl
noncomputable def TopSwap_5_f_h1 : HK := H0.memo TopSwap_5_f_m0 TopSwap_5_f_m0_ok
noncomputable def TopSwap_5_f_m1 : MM := ⟨[155], [(12, ⟨[f 2 0 1, f 9 0 4, f 11 0 1, .snil, o 32 0 1, i 0], 57, 0, none⟩),
(30, ⟨[o 69 0 21, i 3, i 0, i 0, i 0], 46, 0, none⟩),
(32, ⟨[i 0, o 29 0 5, f 30 0 1], 50, 3, none⟩)], 135, [⟨155, 0, [.v (.c (.ptr 12 0)), .v (.c (i 0))], .tup [.agg [i 0, i 0, i 0], .c (.bool true)]⟩,
⟨155, 1, [.v (.c (.ptr 12 0)), .v (.c (i 1))], .tup [.agg [i 0, i 0, i 1], .c (.bool true)]⟩,
⟨155, 2, [.v (.c (.ptr 12 0)), .v (.c (i 2))], .tup [.agg [i 0, i 0, i 2], .c (.bool true)]⟩,
⟨155, 3, [.v (.c (.ptr 12 0)), .v (.c (i 3))], .tup [.agg [i 0, i 0, i 3], .c (.bool true)]⟩,
⟨155, 4, [.v (.c (.ptr 12 0)), .v (.c (i 4))], .tup [.agg [i 0, i 0, i 4], .c (.bool true)]⟩,
⟨155, 5, [.v (.c (.ptr 12 0)), .v (.c (i 5))], .tup [.agg [i 0, i 0, i 5], .c (.bool true)]⟩,
⟨155, 6, [.v (.c (.ptr 12 0)), .v (.c (i 6))], .tup [.agg [i 0, i 0, i 6], .c (.bool true)]⟩,
⟨155, 7, [.v (.c (.ptr 12 0)), .v (.c (i 7))], .tup [.agg [i 0, i 0, i 7], .c (.bool true)]⟩,
⟨155, 8, [.v (.c (.ptr 12 0)), .v (.c (i 8))], .tup [.agg [i 0, i 0, i 8], .c (.bool true)]⟩,
⟨155, 9, [.v (.c (.ptr 12 0)), .v (.c (i 9))], .tup [.agg [i 0, i 0, i 9], .c (.bool true)]⟩,
⟨155, 10, [.v (.c (.ptr 12 0)), .v (.c (i 10))], .tup [.agg [i 0, i 0, i 10], .c (.bool true)]⟩,
⟨155, 11, [.v (.c (.ptr 12 0)), .v (.c (i 11))], .tup [.agg [i 0, i 0, i 11], .c (.bool true)]⟩,
⟨155, 12, [.v (.c (.ptr 12 0)), .v (.c (i 12))], .tup [.agg [i 0, i 0, i 12], .c (.bool true)]⟩,
⟨155, 13, [.v (.c (.ptr 12 0)), .v (.c (i 13))], .tup [.agg [i 0, i 0, i 13], .c (.bool true)]⟩,
⟨155, 14, [.v (.c (.ptr 12 0)), .v (.c (i 14))], .tup [.agg [i 0, i 0, i 14], .c (.bool true)]⟩,
⟨155, 15, [.v (.c (.ptr 12 0)), .v (.c (i 15))], .tup [.agg [i 0, i 0, i 15], .c (.bool true)]⟩,
⟨155, 16, [.v (.c (.ptr 12 0)), .v (.c (i 16))], .tup [.agg [i 0, i 0, i 16], .c (.bool true)]⟩,
⟨155, 17, [.v (.c (.ptr 12 0)), .v (.c (i 17))], .tup [.agg [i 0, i 0, i 17], .c (.bool true)]⟩,
⟨155, 18, [.v (.c (.ptr 12 0)), .v (.c (i 18))], .tup [.agg [i 0, i 0, i 18], .c (.bool true)]⟩,
⟨155, 19, [.v (.c (.ptr 12 0)), .v (.c (i 19))], .tup [.agg [i 0, i 0, i 19], .c (.bool true)]⟩,
⟨155, 20, [.v (.c (.ptr 12 0)), .v (.c (i 20))], .tup [.agg [i 0, i 0, i 20], .c (.bool true)]⟩,
⟨155, 21, [.v (.c (.ptr 12 0)), .v (.c (i 21))], .tup [.agg [i 0, i 0, i 21], .c (.bool true)]⟩]⟩
theorem TopSwap_5_f_m1_ok : TopSwap_5_f_h1.tbl TopSwap_5_f_m1 = true := by kernel_rfl
noncomputable def TopSwap_5_f_h2 : HK := TopSwap_5_f_h1.memo TopSwap_5_f_m1 TopSwap_5_f_m1_ok
noncomputable def TopSwap_5_f_s1_b : Bls := TopSwap_5_f_l0
noncomputable def TopSwap_5_f_s1 : RE := ⟨76, [.v (.c (.ptr 12 0))], 70, .v (.c (.ptr 70 0)), [(70, ⟨[o 84 0 1, o 88 0 1, o 173 0 2, o 162 0 2, o 164 0 2, i 12], 230, 0, none⟩),
(82, ⟨[i 0, i 1, i 2, i 3, i 4], 3, 1, none⟩),
(84, ⟨[o 82 0 5], 27, 1, none⟩),
(88, ⟨[i 5], 3, 1, none⟩),
(153, ⟨[i 6, i 7, i 8], 3, 1, none⟩),
(162, ⟨[i 1, i 2], 3, 1, none⟩),
(164, ⟨[i 0, i 0], 3, 1, none⟩),
(171, ⟨[i 9, i 10, i 11], 3, 1, none⟩),
(173, ⟨[o 153 0 3, o 171 0 3], 27, 1, none⟩)], 269⟩
theorem TopSwap_5_f_s1_ok : TopSwap_5_f_h2.srp TopSwap_5_f_s1_b TopSwap_5_f_s1 = true := by kernel_rfl
noncomputable def TopSwap_5_f_h3 : HK := TopSwap_5_f_h2.srep TopSwap_5_f_s1_b TopSwap_5_f_s1 TopSwap_5_f_s1_ok
noncomputable def TopSwap_5_f_s2_b : Bls := TopSwap_5_f_l0
noncomputable def TopSwap_5_f_s2 : RE := ⟨87, [.v (.c (.ptr 12 0))], 610, .v (.c (o 653 0 22)), [(653, ⟨[i 0, i 0, i 0, i 0, i 0, i 1, i 0, i 0, i 2, i 0, i 0, i 3, i 0, i 0, i 4, i 0, i 0, i 5, i 0, i 0, i 6, i 0, i 0, i 7, i 0, i 0, i 8, i 0, i 0, i 9, i 0, i 0, i 10, i 0, i 0, i 11, i 0, i 0, i 12, i 0, i 0, i 13, i 0, i 0, i 14, i 0, i 0, i 15, i 0, i 0, i 16, i 0, i 0, i 17, i 0, i 0, i 18, i 0, i 0, i 19, i 0, i 0, i 20, i 0, i 0, i 21], 88, 3, none⟩)], 654⟩
theorem TopSwap_5_f_s2_ok : TopSwap_5_f_h3.srp TopSwap_5_f_s2_b TopSwap_5_f_s2 = true := by kernel_rfl
noncomputable def TopSwap_5_f_h4 : HK := TopSwap_5_f_h3.srep TopSwap_5_f_s2_b TopSwap_5_f_s2 TopSwap_5_f_s2_ok
noncomputable def TopSwap_5_f_s3_b : Bls := TopSwap_5_f_l0
noncomputable def TopSwap_5_f_s3 : RE := ⟨49, [.v (.c (.ptr 12 0)), .v (.c (.snil))], 70, .v (.c (.ptr 299 0)), TopSwap_5_f_l1, 1138⟩
theorem TopSwap_5_f_s3_ok : TopSwap_5_f_h4.rep TopSwap_5_f_s3_b TopSwap_5_f_s3 = true := by kernel_rfl
noncomputable def TopSwap_5_f_h5 : HK := TopSwap_5_f_h4.repl TopSwap_5_f_s3_b TopSwap_5_f_s3 TopSwap_5_f_s3_ok
theorem TopSwap_5_f_run : isBool true (runW TopSwap_5_f_h5.K 9 [mi 7 5, ab false] s0) = true := by kernel_rfl
theorem TopSwap_5_f_law {args : Array Value} (ha : VAs (fun _ => none) [mi 7 5, ab false] args.toList) (w : World) (hT : Tab w) :
    Calls Tryz.prog 9 args w fun e w' => Below w.heap.size w w' ∧ e = .returned (.bool true) := TopSwap_5_f_h5.law TopSwap_5_f_run ha w hT
end Go.Proofs.YteajpblmbmncdaaGreatDoor
