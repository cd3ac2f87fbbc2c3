/- Tables of calls, and a run that uses them. -/
import Derived.Test.YteajpblmbmncdaaGreatDoorLn
namespace Go.Proofs.YteajpblmbmncdaaGreatDoor
open Go Go.RowKit Ev
set_option maxRecDepth 100000
set_option linter.unusedVariables false
private noncomputable abbrev i (n : Nat) : CV := .int .i64 (.ofNat n)
private noncomputable abbrev o (b a n : Nat) : CV := .slice b a n (.opn 0)
private noncomputable abbrev f (b a n : Nat) : CV := .slice b a n (.fix n)
private noncomputable abbrev e (k t : Nat) : Nat × BK := (k, ⟨[.snil], t, 0, none⟩)
private noncomputable abbrev TopSwap_6_t_l0 : Bls := [(1, ⟨[i 0, i 0, i 0, i 0, i 1, i 0], 69, 0, none⟩),
(2, ⟨[f 1 0 3], 47, 0, none⟩),
(4, ⟨[i 1, i 0], 69, 0, none⟩),
(5, ⟨[i 0, i 0], 69, 0, none⟩),
(7, ⟨[i 1, i 0], 69, 0, none⟩),
(9, ⟨[.snil, i 0, i 0, f 4 0 1, i 0, i 0, f 5 0 1, i 0, i 0, f 7 0 1, i 1, i 0], 72, 0, none⟩),
(10, ⟨[i 0], 3, 0, none⟩),
(11, ⟨[f 10 0 1], 74, 0, none⟩),
(12, ⟨[f 2 0 1, f 9 0 4, f 11 0 1, .snil, o 32 0 1, i 0], 57, 0, none⟩),
(29, ⟨[i 0, i 0, i 1, i 0, i 1, i 0, i 1, i 0, i 1, i 0], 69, 2, none⟩),
(30, ⟨[o 74 0 24, i 3, i 0, i 0, i 0], 46, 0, none⟩),
(32, ⟨[i 0, o 29 0 5, f 30 0 1], 50, 3, none⟩),
(74, ⟨[i 1, i 0, i 0, i 0, i 1, .snil, i 5, i 1, i 0, i 0, i 0, .snil, i 5, i 2, i 0, i 0, i 0, .snil, i 6, i 4, i 1, i 0, i 0, .snil, i 9, i 0, i 4, i 0, i 0, .snil, i 6, i 3, i 1, i 0, i 0, .snil, i 6, i 1, i 2, i 0, i 0, .snil, i 6, i 2, i 3, i 0, i 0, .snil, i 6, i 3, i 1, i 0, i 0, .snil, i 6, i 1, i 2, i 0, i 0, .snil, i 6, i 2, i 3, i 0, i 0, .snil, i 6, i 3, i 1, i 0, i 0, .snil, i 6, i 1, i 2, i 0, i 0, .snil, i 6, i 2, i 3, i 0, i 0, .snil, i 6, i 3, i 1, i 0, i 0, .snil, i 6, i 1, i 2, i 0, i 0, .snil, i 6, i 2, i 3, i 0, i 0, .snil, i 6, i 3, i 1, i 0, i 0, .snil, i 6, i 1, i 2, i 0, i 0, .snil, i 6, i 2, i 3, i 0, i 0, .snil, i 6, i 3, i 1, i 0, i 0, .snil, i 6, i 1, i 2, i 0, i 0, .snil, i 6, i 2, i 3, i 0, i 0, .snil, i 8, i 0, i 1, i 0, i 0, .snil], 29, 6, none⟩)]
private noncomputable abbrev TopSwap_6_t_l1 : Bls := [(706, ⟨[i 0, i 0, i 0, i 0, i 0, i 1, i 0, i 0, i 2, i 0, i 0, i 3, i 0, i 0, i 4, i 0, i 0, i 5, i 0, i 0, i 6, i 0, i 0, i 7, i 0, i 0, i 8, i 0, i 0, i 9, i 0, i 0, i 10, i 0, i 0, i 11, i 0, i 0, i 12, i 0, i 0, i 13, i 0, i 0, i 14, i 0, i 0, i 15, i 0, i 0, i 16, i 0, i 0, i 17, i 0, i 0, i 18, i 0, i 0, i 19, i 0, i 0, i 20, i 0, i 0, i 21, i 0, i 0, i 22, i 0, i 0, i 23, i 0, i 0, i 24], 88, 3, none⟩)]
private noncomputable abbrev TopSwap_6_t_l2 : Bls := [(75, ⟨[o 89 0 1, o 93 0 1, o 184 0 2, o 173 0 2, o 175 0 2, i 12], 230, 0, none⟩),
(87, ⟨[i 0, i 1, i 2, i 3, i 4], 3, 1, none⟩),
(89, ⟨[o 87 0 5], 27, 1, none⟩),
(93, ⟨[i 5], 3, 1, none⟩),
(164, ⟨[i 6, i 7, i 8], 3, 1, none⟩),
(173, ⟨[i 1, i 2], 3, 1, none⟩),
(175, ⟨[i 0, i 0], 3, 1, none⟩),
(182, ⟨[i 9, i 10, i 11], 3, 1, none⟩),
(184, ⟨[o 164 0 3, o 182 0 3], 27, 1, none⟩),
(295, ⟨[o 319 0 12], 233, 0, none⟩),
(319, ⟨[i 0, i 1, i 2, i 3, i 4, i 5, i 6, i 7, i 8, i 9, i 10, i 11], 3, 1, none⟩),
(320, ⟨[.snil, .snil, .snil, .snil, .snil, .snil, .snil, .snil, .snil, .snil, .snil, .snil], 238, 0, none⟩),
(321, ⟨[o 435 0 1], 139, 0, none⟩),
(322, ⟨[], 0, 0, some (.map [] 0)⟩),
(323, ⟨[], 0, 0, some (.map [] 4)⟩),
(324, ⟨[.snil, o 1005 0 0, .map 323, i 4], 237, 0, none⟩),
(325, ⟨[.ptr 12 0, .ptr 75 0, .ptr 295 0, o 427 0 12, o 430 0 12, o 433 0 12, f 320 0 12, .ptr 321 0, .map 322, .ptr 324 0], 145, 0, none⟩),
e 326 139,
e 329 139,
e 332 139,
(335, ⟨[o 979 0 1], 139, 0, none⟩),
(341, ⟨[o 995 0 1], 139, 0, none⟩),
(344, ⟨[o 989 0 1], 139, 0, none⟩),
(350, ⟨[o 1009 0 1], 139, 0, none⟩),
(353, ⟨[o 1003 0 1], 139, 0, none⟩),
(359, ⟨[o 1013 0 1], 139, 0, none⟩),
(362, ⟨[o 997 0 1], 139, 0, none⟩),
e 368 139,
e 371 139,
e 374 139,
e 377 139,
e 380 139,
e 383 139,
e 386 139,
e 389 139,
e 392 139,
e 395 139,
e 398 139,
e 401 139,
e 404 139,
e 407 139,
e 410 139,
e 413 139,
e 416 139,
e 419 139,
e 422 139,
e 425 139,
(427, ⟨[.ptr 326 0, .ptr 335 0, .ptr 344 0, .ptr 353 0, .ptr 362 0, .ptr 371 0, .ptr 380 0, .ptr 389 0, .ptr 398 0, .ptr 407 0, .ptr 416 0, .ptr 425 0], 136, 1, none⟩),
e 428 139,
(430, ⟨[.ptr 329 0, .ptr 1224 0, .ptr 1234 0, .ptr 1248 0, .ptr 1242 0, .ptr 374 0, .ptr 383 0, .ptr 392 0, .ptr 401 0, .ptr 410 0, .ptr 419 0, .ptr 428 0], 136, 1, none⟩),
e 431 139,
(433, ⟨[.ptr 332 0, .ptr 341 0, .ptr 350 0, .ptr 359 0, .ptr 368 0, .ptr 377 0, .ptr 386 0, .ptr 395 0, .ptr 404 0, .ptr 413 0, .ptr 422 0, .ptr 431 0], 136, 1, none⟩),
(435, ⟨[.int .u64 (.ofNat 1)], 224, 1, none⟩),
(979, ⟨[.int .u64 (.ofNat 3)], 224, 1, none⟩),
(989, ⟨[.int .u64 (.ofNat 3)], 224, 1, none⟩),
(995, ⟨[.int .u64 (.ofNat 24)], 224, 1, none⟩),
(997, ⟨[.int .u64 (.ofNat 3)], 224, 1, none⟩),
(1003, ⟨[.int .u64 (.ofNat 3)], 224, 1, none⟩),
(1005, ⟨[i 0, i 0, i 0, i 0], 3, 1, none⟩),
(1009, ⟨[.int .u64 (.ofNat 2)], 224, 1, none⟩),
(1013, ⟨[.int .u64 (.ofNat 4)], 224, 1, none⟩),
(1223, ⟨[.int .u64 (.ofNat 3)], 224, 1, none⟩),
(1224, ⟨[o 1223 0 1], 139, 0, none⟩),
(1233, ⟨[.int .u64 (.ofNat 3)], 224, 1, none⟩),
(1234, ⟨[o 1233 0 1], 139, 0, none⟩),
(1241, ⟨[.int .u64 (.ofNat 3)], 224, 1, none⟩),
(1242, ⟨[o 1241 0 1], 139, 0, none⟩),
(1247, ⟨[.int .u64 (.ofNat 3)], 224, 1, none⟩),
(1248, ⟨[o 1247 0 1], 139, 0, none⟩)]
noncomputable def TopSwap_6_t_m0 : MM := ⟨[48], TopSwap_6_t_l0, 75, [⟨48, 0, [.v (.c (.ptr 12 0))], .v (.c (.nili))⟩]⟩
theorem TopSwap_6_t_m0_ok : H0.tbl TopSwap_6_t_m0 = true := by kernel_rfl
noncomputable def TopSwap_6_t_h1 : HK := H0.memo TopSwap_6_t_m0 TopSwap_6_t_m0_ok
noncomputable def TopSwap_6_t_m1 : MM := ⟨[155], [(12, ⟨[f 2 0 1, f 9 0 4, f 11 0 1, .snil, o 32 0 1, i 0], 57, 0, none⟩),
(30, ⟨[o 74 0 24, i 3, i 0, i 0, i 0], 46, 0, none⟩),
(32, ⟨[i 0, o 29 0 5, f 30 0 1], 50, 3, none⟩)], 146, [⟨155, 0, [.v (.c (.ptr 12 0)), .v (.c (i 0))], .tup [.agg [i 0, i 0, i 0], .c (.bool true)]⟩,
⟨155, 1, [.v (.c (.ptr 12 0)), .v (.c (i 1))], .tup [.agg [i 0, i 0, i 1], .c (.bool true)]⟩,
⟨155, 2, [.v (.c (.ptr 12 0)), .v (.c (i 2))], .tup [.agg [i 0, i 0, i 2], .c (.bool true)]⟩,
⟨155, 3, [.v (.c (.ptr 12 0)), .v (.c (i 3))], .tup [.agg [i 0, i 0, i 3], .c (.bool true)]⟩,
⟨155, 4, [.v (.c (.ptr 12 0)), .v (.c (i 4))], .tup [.agg [i 0, i 0, i 4], .c (.bool true)]⟩,
⟨155, 5, [.v (.c (.ptr 12 0)), .v (.c (i 5))], .tup [.agg [i 0, i 0, i 5], .c (.bool true)]⟩,
⟨155, 6, [.v (.c (.ptr 12 0)), .v (.c (i 6))], .tup [.agg [i 0, i 0, i 6], .c (.bool true)]⟩,
⟨155, 7, [.v (.c (.ptr 12 0)), .v (.c (i 7))], .tup [.agg [i 0, i 0, i 7], .c (.bool true)]⟩,
⟨155, 8, [.v (.c (.ptr 12 0)), .v (.c (i 8))], .tup [.agg [i 0, i 0, i 8], .c (.bool true)]⟩,
⟨155, 9, [.v (.c (.ptr 12 0)), .v (.c (i 9))], .tup [.agg [i 0, i 0, i 9], .c (.bool true)]⟩,
⟨155, 10, [.v (.c (.ptr 12 0)), .v (.c (i 10))], .tup [.agg [i 0, i 0, i 10], .c (.bool true)]⟩,
⟨155, 11, [.v (.c (.ptr 12 0)), .v (.c (i 11))], .tup [.agg [i 0, i 0, i 11], .c (.bool true)]⟩,
⟨155, 12, [.v (.c (.ptr 12 0)), .v (.c (i 12))], .tup [.agg [i 0, i 0, i 12], .c (.bool true)]⟩,
⟨155, 13, [.v (.c (.ptr 12 0)), .v (.c (i 13))], .tup [.agg [i 0, i 0, i 13], .c (.bool true)]⟩,
⟨155, 14, [.v (.c (.ptr 12 0)), .v (.c (i 14))], .tup [.agg [i 0, i 0, i 14], .c (.bool true)]⟩,
⟨155, 15, [.v (.c (.ptr 12 0)), .v (.c (i 15))], .tup [.agg [i 0, i 0, i 15], .c (.bool true)]⟩,
⟨155, 16, [.v (.c (.ptr 12 0)), .v (.c (i 16))], .tup [.agg [i 0, i 0, i 16], .c (.bool true)]⟩,
⟨155, 17, [.v (.c (.ptr 12 0)), .v (.c (i 17))], .tup [.agg [i 0, i 0, i 17], .c (.bool true)]⟩,
⟨155, 18, [.v (.c (.ptr 12 0)), .v (.c (i 18))], .tup [.agg [i 0, i 0, i 18], .c (.bool true)]⟩,
⟨155, 19, [.v (.c (.ptr 12 0)), .v (.c (i 19))], .tup [.agg [i 0, i 0, i 19], .c (.bool true)]⟩,
⟨155, 20, [.v (.c (.ptr 12 0)), .v (.c (i 20))], .tup [.agg [i 0, i 0, i 20], .c (.bool true)]⟩,
⟨155, 21, [.v (.c (.ptr 12 0)), .v (.c (i 21))], .tup [.agg [i 0, i 0, i 21], .c (.bool true)]⟩,
⟨155, 22, [.v (.c (.ptr 12 0)), .v (.c (i 22))], .tup [.agg [i 0, i 0, i 22], .c (.bool true)]⟩,
⟨155, 23, [.v (.c (.ptr 12 0)), .v (.c (i 23))], .tup [.agg [i 0, i 0, i 23], .c (.bool true)]⟩,
⟨155, 24, [.v (.c (.ptr 12 0)), .v (.c (i 24))], .tup [.agg [i 0, i 0, i 24], .c (.bool true)]⟩]⟩
theorem TopSwap_6_t_m1_ok : TopSwap_6_t_h1.tbl TopSwap_6_t_m1 = true := by kernel_rfl
noncomputable def TopSwap_6_t_h2 : HK := TopSwap_6_t_h1.memo TopSwap_6_t_m1 TopSwap_6_t_m1_ok
noncomputable def TopSwap_6_t_s1_b : Bls := TopSwap_6_t_l0
noncomputable def TopSwap_6_t_s1 : RE := ⟨76, [.v (.c (.ptr 12 0))], 75, .v (.c (.ptr 75 0)), [(75, ⟨[o 89 0 1, o 93 0 1, o 184 0 2, o 173 0 2, o 175 0 2, i 12], 230, 0, none⟩),
(87, ⟨[i 0, i 1, i 2, i 3, i 4], 3, 1, none⟩),
(89, ⟨[o 87 0 5], 27, 1, none⟩),
(93, ⟨[i 5], 3, 1, none⟩),
(164, ⟨[i 6, i 7, i 8], 3, 1, none⟩),
(173, ⟨[i 1, i 2], 3, 1, none⟩),
(175, ⟨[i 0, i 0], 3, 1, none⟩),
(182, ⟨[i 9, i 10, i 11], 3, 1, none⟩),
(184, ⟨[o 164 0 3, o 182 0 3], 27, 1, none⟩)], 295⟩
theorem TopSwap_6_t_s1_ok : TopSwap_6_t_h2.srp TopSwap_6_t_s1_b TopSwap_6_t_s1 = true := by kernel_rfl
noncomputable def TopSwap_6_t_h3 : HK := TopSwap_6_t_h2.srep TopSwap_6_t_s1_b TopSwap_6_t_s1 TopSwap_6_t_s1_ok
noncomputable def TopSwap_6_t_s2_b : Bls := TopSwap_6_t_l0
noncomputable def TopSwap_6_t_s2 : RE := ⟨87, [.v (.c (.ptr 12 0))], 657, .v (.c (o 706 0 25)), TopSwap_6_t_l1, 707⟩
theorem TopSwap_6_t_s2_ok : TopSwap_6_t_h3.srp TopSwap_6_t_s2_b TopSwap_6_t_s2 = true := by kernel_rfl
noncomputable def TopSwap_6_t_h4 : HK := TopSwap_6_t_h3.srep TopSwap_6_t_s2_b TopSwap_6_t_s2 TopSwap_6_t_s2_ok
noncomputable def TopSwap_6_t_s3_b : Bls := TopSwap_6_t_l0
noncomputable def TopSwap_6_t_s3 : RE := ⟨49, [.v (.c (.ptr 12 0)), .v (.c (.snil))], 75, .v (.c (.ptr 325 0)), TopSwap_6_t_l2, 1251⟩
theorem TopSwap_6_t_s3_ok : TopSwap_6_t_h4.rep TopSwap_6_t_s3_b TopSwap_6_t_s3 = true := by kernel_rfl
noncomputable def TopSwap_6_t_h5 : HK := TopSwap_6_t_h4.repl TopSwap_6_t_s3_b TopSwap_6_t_s3 TopSwap_6_t_s3_ok
theorem TopSwap_6_t_run : isBool true (runW TopSwap_6_t_h5.K 9 [mi 7 6, ab true] s0) = true := by kernel_rfl
theorem TopSwap_6_t_law {args : Array Value} (ha : VAs (fun _ => none) [mi 7 6, ab true] args.toList) (w : World) (hT : Tab w) :
    Calls Tryz.prog 9 args w fun e w' => Below w.heap.size w w' ∧ e = .returned (.bool true) := TopSwap_6_t_h5.law TopSwap_6_t_run ha w hT
end Go.Proofs.YteajpblmbmncdaaGreatDoor
