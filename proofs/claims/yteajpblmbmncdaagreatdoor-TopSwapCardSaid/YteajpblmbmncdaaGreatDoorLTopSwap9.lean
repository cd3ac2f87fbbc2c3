/- Tables of calls, and a run that uses them. -/
import Derived.Test.YteajpblmbmncdaaGreatDoorLn
namespace Go.Proofs.YteajpblmbmncdaaGreatDoor
open Go Go.RowKit Ev
set_option maxRecDepth 100000
set_option linter.unusedVariables false
private noncomputable abbrev i (n : Nat) : CV := .int .i64 (.ofNat n)
private noncomputable abbrev o (b a n : Nat) : CV := .slice b a n (.opn 0)
private noncomputable abbrev f (b a n : Nat) : CV := .slice b a n (.fix n)
private noncomputable abbrev e (k t : Nat) : Nat × BK := (k, ⟨[.snil], t, 0, none⟩)
private noncomputable abbrev TopSwap_4_f_l0 : Bls := [(1, ⟨[i 0, i 0, i 0, i 0, i 1, i 0], 69, 0, none⟩),
(2, ⟨[f 1 0 3], 47, 0, none⟩),
(4, ⟨[i 1, i 0], 69, 0, none⟩),
(5, ⟨[i 0, i 0], 69, 0, none⟩),
(7, ⟨[i 1, i 0], 69, 0, none⟩),
(9, ⟨[.snil, i 0, i 0, f 4 0 1, i 0, i 0, f 5 0 1, i 0, i 0, f 7 0 1, i 1, i 0], 72, 0, none⟩),
(10, ⟨[i 0], 3, 0, none⟩),
(11, ⟨[f 10 0 1], 74, 0, none⟩),
(12, ⟨[f 2 0 1, f 9 0 4, f 11 0 1, .snil, o 32 0 1, i 0], 57, 0, none⟩),
(29, ⟨[i 0, i 0, i 1, i 0, i 1, i 0, i 1, i 0, i 1, i 0], 69, 2, none⟩),
(30, ⟨[o 64 0 18, i 3, i 0, i 0, i 0], 46, 0, none⟩),
(32, ⟨[i 0, o 29 0 5, f 30 0 1], 50, 3, none⟩),
(64, ⟨[i 1, i 0, i 0, i 0, i 1, .snil, i 5, i 1, i 0, i 0, i 0, .snil, i 5, i 2, i 0, i 0, i 0, .snil, i 6, i 4, i 2, i 0, i 0, .snil, i 9, i 0, i 4, i 0, i 0, .snil, i 6, i 3, i 1, i 0, i 0, .snil, i 6, i 1, i 2, i 0, i 0, .snil, i 6, i 2, i 3, i 0, i 0, .snil, i 6, i 3, i 1, i 0, i 0, .snil, i 6, i 1, i 2, i 0, i 0, .snil, i 6, i 2, i 3, i 0, i 0, .snil, i 6, i 3, i 1, i 0, i 0, .snil, i 6, i 1, i 2, i 0, i 0, .snil, i 6, i 2, i 3, i 0, i 0, .snil, i 6, i 3, i 1, i 0, i 0, .snil, i 6, i 1, i 2, i 0, i 0, .snil, i 6, i 2, i 3, i 0, i 0, .snil, i 8, i 0, i 1, i 0, i 0, .snil], 29, 6, none⟩)]
private noncomputable abbrev TopSwap_4_f_l1 : Bls := [(65, ⟨[o 79 0 1, o 83 0 1, o 162 0 2, o 151 0 2, o 153 0 2, i 12], 230, 0, none⟩),
(77, ⟨[i 0, i 1, i 2, i 3, i 4], 3, 1, none⟩),
(79, ⟨[o 77 0 5], 27, 1, none⟩),
(83, ⟨[i 5], 3, 1, none⟩),
(142, ⟨[i 6, i 7, i 8], 3, 1, none⟩),
(151, ⟨[i 1, i 2], 3, 1, none⟩),
(153, ⟨[i 0, i 0], 3, 1, none⟩),
(160, ⟨[i 9, i 10, i 11], 3, 1, none⟩),
(162, ⟨[o 142 0 3, o 160 0 3], 27, 1, none⟩),
(243, ⟨[o 267 0 12], 233, 0, none⟩),
(267, ⟨[i 0, i 1, i 2, i 3, i 4, i 5, i 6, i 7, i 8, i 9, i 10, i 11], 3, 1, none⟩),
(268, ⟨[.snil, .snil, .snil, .snil, .snil, .snil, .snil, .snil, .snil, .snil, .snil, .snil], 238, 0, none⟩),
(269, ⟨[o 383 0 1], 139, 0, none⟩),
(270, ⟨[], 0, 0, some (.map [] 0)⟩),
(271, ⟨[], 0, 0, some (.map [] 4)⟩),
(272, ⟨[.snil, o 835 0 0, .map 271, i 4], 237, 0, none⟩),
(273, ⟨[.ptr 12 0, .ptr 65 0, .ptr 243 0, o 375 0 12, o 378 0 12, o 381 0 12, f 268 0 12, .ptr 269 0, .map 270, .ptr 272 0], 145, 0, none⟩),
e 274 139,
e 277 139,
e 280 139,
(283, ⟨[o 807 0 1], 139, 0, none⟩),
(289, ⟨[o 831 0 1], 139, 0, none⟩),
(292, ⟨[o 817 0 1], 139, 0, none⟩),
(298, ⟨[o 823 0 1], 139, 0, none⟩),
(301, ⟨[o 833 0 1], 139, 0, none⟩),
(307, ⟨[o 841 0 1], 139, 0, none⟩),
(310, ⟨[o 825 0 1], 139, 0, none⟩),
e 316 139,
e 319 139,
e 322 139,
e 325 139,
e 328 139,
e 331 139,
e 334 139,
e 337 139,
e 340 139,
e 343 139,
e 346 139,
e 349 139,
e 352 139,
e 355 139,
e 358 139,
e 361 139,
e 364 139,
e 367 139,
e 370 139,
e 373 139,
(375, ⟨[.ptr 274 0, .ptr 283 0, .ptr 292 0, .ptr 301 0, .ptr 310 0, .ptr 319 0, .ptr 328 0, .ptr 337 0, .ptr 346 0, .ptr 355 0, .ptr 364 0, .ptr 373 0], 136, 1, none⟩),
e 376 139,
(378, ⟨[.ptr 277 0, .ptr 998 0, .ptr 1006 0, .ptr 1022 0, .ptr 1016 0, .ptr 322 0, .ptr 331 0, .ptr 340 0, .ptr 349 0, .ptr 358 0, .ptr 367 0, .ptr 376 0], 136, 1, none⟩),
e 379 139,
(381, ⟨[.ptr 280 0, .ptr 289 0, .ptr 298 0, .ptr 307 0, .ptr 316 0, .ptr 325 0, .ptr 334 0, .ptr 343 0, .ptr 352 0, .ptr 361 0, .ptr 370 0, .ptr 379 0], 136, 1, none⟩),
(383, ⟨[.int .u64 (.ofNat 1)], 224, 1, none⟩),
(807, ⟨[.int .u64 (.ofNat 3)], 224, 1, none⟩),
(817, ⟨[.int .u64 (.ofNat 3)], 224, 1, none⟩),
(823, ⟨[.int .u64 (.ofNat 18)], 224, 1, none⟩),
(825, ⟨[.int .u64 (.ofNat 3)], 224, 1, none⟩),
(831, ⟨[.int .u64 (.ofNat 8)], 224, 1, none⟩),
(833, ⟨[.int .u64 (.ofNat 3)], 224, 1, none⟩),
(835, ⟨[i 0, i 0, i 0, i 0], 3, 1, none⟩),
(841, ⟨[.int .u64 (.ofNat 4)], 224, 1, none⟩),
(997, ⟨[.int .u64 (.ofNat 3)], 224, 1, none⟩),
(998, ⟨[o 997 0 1], 139, 0, none⟩),
(1005, ⟨[.int .u64 (.ofNat 3)], 224, 1, none⟩),
(1006, ⟨[o 1005 0 1], 139, 0, none⟩),
(1015, ⟨[.int .u64 (.ofNat 3)], 224, 1, none⟩),
(1016, ⟨[o 1015 0 1], 139, 0, none⟩),
(1021, ⟨[.int .u64 (.ofNat 3)], 224, 1, none⟩),
(1022, ⟨[o 1021 0 1], 139, 0, none⟩)]
noncomputable def TopSwap_4_f_m0 : MM := ⟨[48], TopSwap_4_f_l0, 65, [⟨48, 0, [.v (.c (.ptr 12 0))], .v (.c (.nili))⟩]⟩
theorem TopSwap_4_f_m0_ok : H0.tbl TopSwap_4_f_m0 = true := by kernel_rfl
noncomputable def TopSwap_4_f_h1 : HK := H0.memo TopSwap_4_f_m0 TopSwap_4_f_m0_ok
noncomputable def TopSwap_4_f_m1 : MM := ⟨[155], [(12, ⟨[f 2 0 1, f 9 0 4, f 11 0 1, .snil, o 32 0 1, i 0], 57, 0, none⟩),
(30, ⟨[o 64 0 18, i 3, i 0, i 0, i 0], 46, 0, none⟩),
(32, ⟨[i 0, o 29 0 5, f 30 0 1], 50, 3, none⟩)], 124, [⟨155, 0, [.v (.c (.ptr 12 0)), .v (.c (i 0))], .tup [.agg [i 0, i 0, i 0], .c (.bool true)]⟩,
⟨155, 1, [.v (.c (.ptr 12 0)), .v (.c (i 1))], .tup [.agg [i 0, i 0, i 1], .c (.bool true)]⟩,
⟨155, 2, [.v (.c (.ptr 12 0)), .v (.c (i 2))], .tup [.agg [i 0, i 0, i 2], .c (.bool true)]⟩,
⟨155, 3, [.v (.c (.ptr 12 0)), .v (.c (i 3))], .tup [.agg [i 0, i 0, i 3], .c (.bool true)]⟩,
⟨155, 4, [.v (.c (.ptr 12 0)), .v (.c (i 4))], .tup [.agg [i 0, i 0, i 4], .c (.bool true)]⟩,
⟨155, 5, [.v (.c (.ptr 12 0)), .v (.c (i 5))], .tup [.agg [i 0, i 0, i 5], .c (.bool true)]⟩,
⟨155, 6, [.v (.c (.ptr 12 0)), .v (.c (i 6))], .tup [.agg [i 0, i 0, i 6], .c (.bool true)]⟩,
⟨155, 7, [.v (.c (.ptr 12 0)), .v (.c (i 7))], .tup [.agg [i 0, i 0, i 7], .c (.bool true)]⟩,
⟨155, 8, [.v (.c (.ptr 12 0)), .v (.c (i 8))], .tup [.agg [i 0, i 0, i 8], .c (.bool true)]⟩,
⟨155, 9, [.v (.c (.ptr 12 0)), .v (.c (i 9))], .tup [.agg [i 0, i 0, i 9], .c (.bool true)]⟩,
⟨155, 10, [.v (.c (.ptr 12 0)), .v (.c (i 10))], .tup [.agg [i 0, i 0, i 10], .c (.bool true)]⟩,
⟨155, 11, [.v (.c (.ptr 12 0)), .v (.c (i 11))], .tup [.agg [i 0, i 0, i 11], .c (.bool true)]⟩,
⟨155, 12, [.v (.c (.ptr 12 0)), .v (.c (i 12))], .tup [.agg [i 0, i 0, i 12], .c (.bool true)]⟩,
⟨155, 13, [.v (.c (.ptr 12 0)), .v (.c (i 13))], .tup [.agg [i 0, i 0, i 13], .c (.bool true)]⟩,
⟨155, 14, [.v (.c (.ptr 12 0)), .v (.c (i 14))], .tup [.agg [i 0, i 0, i 14], .c (.bool true)]⟩,
⟨155, 15, [.v (.c (.ptr 12 0)), .v (.c (i 15))], .tup [.agg [i 0, i 0, i 15], .c (.bool true)]⟩,
⟨155, 16, [.v (.c (.ptr 12 0)), .v (.c (i 16))], .tup [.agg [i 0, i 0, i 16], .c (.bool true)]⟩,
⟨155, 17, [.v (.c (.ptr 12 0)), .v (.c (i 17))], .tup [.agg [i 0, i 0, i 17], .c (.bool true)]⟩,
⟨155, 18, [.v (.c (.ptr 12 0)), .v (.c (i 18))], .tup [.agg [i 0, i 0, i 18], .c (.bool true)]⟩]⟩
theorem TopSwap_4_f_m1_ok : TopSwap_4_f_h1.tbl TopSwap_4_f_m1 = true := by kernel_rfl
noncomputable def TopSwap_4_f_h2 : HK := TopSwap_4_f_h1.memo TopSwap_4_f_m1 TopSwap_4_f_m1_ok
noncomputable def TopSwap_4_f_s1_b : Bls := TopSwap_4_f_l0
noncomputable def TopSwap_4_f_s1 : RE := ⟨76, [.v (.c (.ptr 12 0))], 65, .v (.c (.ptr 65 0)), [(65, ⟨[o 79 0 1, o 83 0 1, o 162 0 2, o 151 0 2, o 153 0 2, i 12], 230, 0, none⟩),
(77, ⟨[i 0, i 1, i 2, i 3, i 4], 3, 1, none⟩),
(79, ⟨[o 77 0 5], 27, 1, none⟩),
(83, ⟨[i 5], 3, 1, none⟩),
(142, ⟨[i 6, i 7, i 8], 3, 1, none⟩),
(151, ⟨[i 1, i 2], 3, 1, none⟩),
(153, ⟨[i 0, i 0], 3, 1, none⟩),
(160, ⟨[i 9, i 10, i 11], 3, 1, none⟩),
(162, ⟨[o 142 0 3, o 160 0 3], 27, 1, none⟩)], 243⟩
theorem TopSwap_4_f_s1_ok : TopSwap_4_f_h2.srp TopSwap_4_f_s1_b TopSwap_4_f_s1 = true := by kernel_rfl
noncomputable def TopSwap_4_f_h3 : HK := TopSwap_4_f_h2.srep TopSwap_4_f_s1_b TopSwap_4_f_s1 TopSwap_4_f_s1_ok
noncomputable def TopSwap_4_f_s2_b : Bls := TopSwap_4_f_l0
noncomputable def TopSwap_4_f_s2 : RE := ⟨87, [.v (.c (.ptr 12 0))], 563, .v (.c (o 600 0 19)), [(600, ⟨[i 0, i 0, i 0, i 0, i 0, i 1, i 0, i 0, i 2, i 0, i 0, i 3, i 0, i 0, i 4, i 0, i 0, i 5, i 0, i 0, i 6, i 0, i 0, i 7, i 0, i 0, i 8, i 0, i 0, i 9, i 0, i 0, i 10, i 0, i 0, i 11, i 0, i 0, i 12, i 0, i 0, i 13, i 0, i 0, i 14, i 0, i 0, i 15, i 0, i 0, i 16, i 0, i 0, i 17, i 0, i 0, i 18], 88, 3, none⟩)], 601⟩
theorem TopSwap_4_f_s2_ok : TopSwap_4_f_h3.srp TopSwap_4_f_s2_b TopSwap_4_f_s2 = true := by kernel_rfl
noncomputable def TopSwap_4_f_h4 : HK := TopSwap_4_f_h3.srep TopSwap_4_f_s2_b TopSwap_4_f_s2 TopSwap_4_f_s2_ok
noncomputable def TopSwap_4_f_s3_b : Bls := TopSwap_4_f_l0
noncomputable def TopSwap_4_f_s3 : RE := ⟨49, [.v (.c (.ptr 12 0)), .v (.c (.snil))], 65, .v (.c (.ptr 273 0)), TopSwap_4_f_l1, 1025⟩
theorem TopSwap_4_f_s3_ok : TopSwap_4_f_h4.rep TopSwap_4_f_s3_b TopSwap_4_f_s3 = true := by kernel_rfl
noncomputable def TopSwap_4_f_h5 : HK := TopSwap_4_f_h4.repl TopSwap_4_f_s3_b TopSwap_4_f_s3 TopSwap_4_f_s3_ok
theorem TopSwap_4_f_run : isBool true (runW TopSwap_4_f_h5.K 9 [mi 7 4, ab false] s0) = true := by kernel_rfl
theorem TopSwap_4_f_law {args : Array Value} (ha : VAs (fun _ => none) [mi 7 4, ab false] args.toList) (w : World) (hT : Tab w) :
    Calls Tryz.prog 9 args w fun e w' => Below w.heap.size w w' ∧ e = .returned (.bool true) := TopSwap_4_f_h5.law TopSwap_4_f_run ha w hT
end Go.Proofs.YteajpblmbmncdaaGreatDoor
