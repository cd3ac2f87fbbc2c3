/- Tables of calls, and a run that uses them. -/
import Derived.Test.YteajpblmbmncdaaGreatDoorLn
namespace Go.Proofs.YteajpblmbmncdaaGreatDoor
open Go Go.RowKit Ev
set_option maxRecDepth 100000
set_option linter.unusedVariables false
private noncomputable abbrev i (n : Nat) : CV := .int .i64 (.ofNat n)
private noncomputable abbrev o (b a n : Nat) : CV := .slice b a n (.opn 0)
private noncomputable abbrev f (b a n : Nat) : CV := .slice b a n (.fix n)
private noncomputable abbrev e (k t : Nat) : Nat × BK := (k, ⟨[.snil], t, 0, none⟩)
private noncomputable abbrev TopSwap_3_f_l0 : Bls := [(1, ⟨[i 0, i 0, i 0, i 0, i 1, i 0], 69, 0, none⟩),
(2, ⟨[f 1 0 3], 47, 0, none⟩),
(4, ⟨[i 1, i 0], 69, 0, none⟩),
(5, ⟨[i 0, i 0], 69, 0, none⟩),
(7, ⟨[i 1, i 0], 69, 0, none⟩),
(9, ⟨[.snil, i 0, i 0, f 4 0 1, i 0, i 0, f 5 0 1, i 0, i 0, f 7 0 1, i 1, i 0], 72, 0, none⟩),
(10, ⟨[i 0], 3, 0, none⟩),
(11, ⟨[f 10 0 1], 74, 0, none⟩),
(12, ⟨[f 2 0 1, f 9 0 4, f 11 0 1, .snil, o 32 0 1, i 0], 57, 0, none⟩),
(29, ⟨[i 0, i 0, i 1, i 0, i 1, i 0, i 1, i 0, i 1, i 0], 69, 2, none⟩),
(30, ⟨[o 59 0 15, i 3, i 0, i 0, i 0], 46, 0, none⟩),
(32, ⟨[i 0, o 29 0 5, f 30 0 1], 50, 3, none⟩),
(59, ⟨[i 1, i 0, i 0, i 0, i 1, .snil, i 5, i 1, i 0, i 0, i 0, .snil, i 5, i 2, i 0, i 0, i 0, .snil, i 6, i 4, i 2, i 0, i 0, .snil, i 9, i 0, i 4, i 0, i 0, .snil, i 6, i 3, i 1, i 0, i 0, .snil, i 6, i 1, i 2, i 0, i 0, .snil, i 6, i 2, i 3, i 0, i 0, .snil, i 6, i 3, i 1, i 0, i 0, .snil, i 6, i 1, i 2, i 0, i 0, .snil, i 6, i 2, i 3, i 0, i 0, .snil, i 6, i 3, i 1, i 0, i 0, .snil, i 6, i 1, i 2, i 0, i 0, .snil, i 6, i 2, i 3, i 0, i 0, .snil, i 8, i 0, i 1, i 0, i 0, .snil], 29, 6, none⟩)]
private noncomputable abbrev TopSwap_3_f_l1 : Bls := [(60, ⟨[o 74 0 1, o 78 0 1, o 151 0 2, o 140 0 2, o 142 0 2, i 12], 230, 0, none⟩),
(72, ⟨[i 0, i 1, i 2, i 3, i 4], 3, 1, none⟩),
(74, ⟨[o 72 0 5], 27, 1, none⟩),
(78, ⟨[i 5], 3, 1, none⟩),
(131, ⟨[i 6, i 7, i 8], 3, 1, none⟩),
(140, ⟨[i 1, i 2], 3, 1, none⟩),
(142, ⟨[i 0, i 0], 3, 1, none⟩),
(149, ⟨[i 9, i 10, i 11], 3, 1, none⟩),
(151, ⟨[o 131 0 3, o 149 0 3], 27, 1, none⟩),
(217, ⟨[o 241 0 12], 233, 0, none⟩),
(241, ⟨[i 0, i 1, i 2, i 3, i 4, i 5, i 6, i 7, i 8, i 9, i 10, i 11], 3, 1, none⟩),
(242, ⟨[.snil, .snil, .snil, .snil, .snil, .snil, .snil, .snil, .snil, .snil, .snil, .snil], 238, 0, none⟩),
(243, ⟨[o 357 0 1], 139, 0, none⟩),
(244, ⟨[], 0, 0, some (.map [] 0)⟩),
(245, ⟨[], 0, 0, some (.map [] 4)⟩),
(246, ⟨[.snil, o 749 0 0, .map 245, i 4], 237, 0, none⟩),
(247, ⟨[.ptr 12 0, .ptr 60 0, .ptr 217 0, o 349 0 12, o 352 0 12, o 355 0 12, f 242 0 12, .ptr 243 0, .map 244, .ptr 246 0], 145, 0, none⟩),
e 248 139,
e 251 139,
e 254 139,
(257, ⟨[o 721 0 1], 139, 0, none⟩),
(263, ⟨[o 745 0 1], 139, 0, none⟩),
(266, ⟨[o 731 0 1], 139, 0, none⟩),
(272, ⟨[o 737 0 1], 139, 0, none⟩),
(275, ⟨[o 747 0 1], 139, 0, none⟩),
(281, ⟨[o 755 0 1], 139, 0, none⟩),
(284, ⟨[o 739 0 1], 139, 0, none⟩),
e 290 139,
e 293 139,
e 296 139,
e 299 139,
e 302 139,
e 305 139,
e 308 139,
e 311 139,
e 314 139,
e 317 139,
e 320 139,
e 323 139,
e 326 139,
e 329 139,
e 332 139,
e 335 139,
e 338 139,
e 341 139,
e 344 139,
e 347 139,
(349, ⟨[.ptr 248 0, .ptr 257 0, .ptr 266 0, .ptr 275 0, .ptr 284 0, .ptr 293 0, .ptr 302 0, .ptr 311 0, .ptr 320 0, .ptr 329 0, .ptr 338 0, .ptr 347 0], 136, 1, none⟩),
e 350 139,
(352, ⟨[.ptr 251 0, .ptr 885 0, .ptr 893 0, .ptr 909 0, .ptr 903 0, .ptr 296 0, .ptr 305 0, .ptr 314 0, .ptr 323 0, .ptr 332 0, .ptr 341 0, .ptr 350 0], 136, 1, none⟩),
e 353 139,
(355, ⟨[.ptr 254 0, .ptr 263 0, .ptr 272 0, .ptr 281 0, .ptr 290 0, .ptr 299 0, .ptr 308 0, .ptr 317 0, .ptr 326 0, .ptr 335 0, .ptr 344 0, .ptr 353 0], 136, 1, none⟩),
(357, ⟨[.int .u64 (.ofNat 1)], 224, 1, none⟩),
(721, ⟨[.int .u64 (.ofNat 3)], 224, 1, none⟩),
(731, ⟨[.int .u64 (.ofNat 3)], 224, 1, none⟩),
(737, ⟨[.int .u64 (.ofNat 18)], 224, 1, none⟩),
(739, ⟨[.int .u64 (.ofNat 3)], 224, 1, none⟩),
(745, ⟨[.int .u64 (.ofNat 8)], 224, 1, none⟩),
(747, ⟨[.int .u64 (.ofNat 3)], 224, 1, none⟩),
(749, ⟨[i 0, i 0, i 0, i 0], 3, 1, none⟩),
(755, ⟨[.int .u64 (.ofNat 4)], 224, 1, none⟩),
(884, ⟨[.int .u64 (.ofNat 3)], 224, 1, none⟩),
(885, ⟨[o 884 0 1], 139, 0, none⟩),
(892, ⟨[.int .u64 (.ofNat 3)], 224, 1, none⟩),
(893, ⟨[o 892 0 1], 139, 0, none⟩),
(902, ⟨[.int .u64 (.ofNat 3)], 224, 1, none⟩),
(903, ⟨[o 902 0 1], 139, 0, none⟩),
(908, ⟨[.int .u64 (.ofNat 3)], 224, 1, none⟩),
(909, ⟨[o 908 0 1], 139, 0, none⟩)]
noncomputable def TopSwap_3_f_m0 : MM := ⟨[48], TopSwap_3_f_l0, 60, [⟨48, 0, [.v (.c (.ptr 12 0))], .v (.c (.nili))⟩]⟩
theorem TopSwap_3_f_m0_ok : H0.tbl TopSwap_3_f_m0 = true := by kernel_rfl
noncomputable def TopSwap_3_f_h1 : HK := H0.memo TopSwap_3_f_m0 TopSwap_3_f_m0_ok
noncomputable def TopSwap_3_f_m1 : MM := ⟨[155], [(12, ⟨[f 2 0 1, f 9 0 4, f 11 0 1, .snil, o 32 0 1, i 0], 57, 0, none⟩),
(30, ⟨[o 59 0 15, i 3, i 0, i 0, i 0], 46, 0, none⟩),
(32, ⟨[i 0, o 29 0 5, f 30 0 1], 50, 3, none⟩)], 113, [⟨155, 0, [.v (.c (.ptr 12 0)), .v (.c (i 0))], .tup [.agg [i 0, i 0, i 0], .c (.bool true)]⟩,
⟨155, 1, [.v (.c (.ptr 12 0)), .v (.c (i 1))], .tup [.agg [i 0, i 0, i 1], .c (.bool true)]⟩,
⟨155, 2, [.v (.c (.ptr 12 0)), .v (.c (i 2))], .tup [.agg [i 0, i 0, i 2], .c (.bool true)]⟩,
⟨155, 3, [.v (.c (.ptr 12 0)), .v (.c (i 3))], .tup [.agg [i 0, i 0, i 3], .c (.bool true)]⟩,
⟨155, 4, [.v (.c (.ptr 12 0)), .v (.c (i 4))], .tup [.agg [i 0, i 0, i 4], .c (.bool true)]⟩,
⟨155, 5, [.v (.c (.ptr 12 0)), .v (.c (i 5))], .tup [.agg [i 0, i 0, i 5], .c (.bool true)]⟩,
⟨155, 6, [.v (.c (.ptr 12 0)), .v (.c (i 6))], .tup [.agg [i 0, i 0, i 6], .c (.bool true)]⟩,
⟨155, 7, [.v (.c (.ptr 12 0)), .v (.c (i 7))], .tup [.agg [i 0, i 0, i 7], .c (.bool true)]⟩,
⟨155, 8, [.v (.c (.ptr 12 0)), .v (.c (i 8))], .tup [.agg [i 0, i 0, i 8], .c (.bool true)]⟩,
⟨155, 9, [.v (.c (.ptr 12 0)), .v (.c (i 9))], .tup [.agg [i 0, i 0, i 9], .c (.bool true)]⟩,
⟨155, 10, [.v (.c (.ptr 12 0)), .v (.c (i 10))], .tup [.agg [i 0, i 0, i 10], .c (.bool true)]⟩,
⟨155, 11, [.v (.c (.ptr 12 0)), .v (.c (i 11))], .tup [.agg [i 0, i 0, i 11], .c (.bool true)]⟩,
⟨155, 12, [.v (.c (.ptr 12 0)), .v (.c (i 12))], .tup [.agg [i 0, i 0, i 12], .c (.bool true)]⟩,
⟨155, 13, [.v (.c (.ptr 12 0)), .v (.c (i 13))], .tup [.agg [i 0, i 0, i 13], .c (.bool true)]⟩,
⟨155, 14, [.v (.c (.ptr 12 0)), .v (.c (i 14))], .tup [.agg [i 0, i 0, i 14], .c (.bool true)]⟩,
⟨155, 15, [.v (.c (.ptr 12 0)), .v (.c (i 15))], .tup [.agg [i 0, i 0, i 15], .c (.bool true)]⟩]⟩
theorem TopSwap_3_f_m1_ok : TopSwap_3_f_h1.tbl TopSwap_3_f_m1 = true := by kernel_rfl
noncomputable def TopSwap_3_f_h2 : HK := TopSwap_3_f_h1.memo TopSwap_3_f_m1 TopSwap_3_f_m1_ok
noncomputable def TopSwap_3_f_s1_b : Bls := TopSwap_3_f_l0
noncomputable def TopSwap_3_f_s1 : RE := ⟨76, [.v (.c (.ptr 12 0))], 60, .v (.c (.ptr 60 0)), [(60, ⟨[o 74 0 1, o 78 0 1, o 151 0 2, o 140 0 2, o 142 0 2, i 12], 230, 0, none⟩),
(72, ⟨[i 0, i 1, i 2, i 3, i 4], 3, 1, none⟩),
(74, ⟨[o 72 0 5], 27, 1, none⟩),
(78, ⟨[i 5], 3, 1, none⟩),
(131, ⟨[i 6, i 7, i 8], 3, 1, none⟩),
(140, ⟨[i 1, i 2], 3, 1, none⟩),
(142, ⟨[i 0, i 0], 3, 1, none⟩),
(149, ⟨[i 9, i 10, i 11], 3, 1, none⟩),
(151, ⟨[o 131 0 3, o 149 0 3], 27, 1, none⟩)], 217⟩
theorem TopSwap_3_f_s1_ok : TopSwap_3_f_h2.srp TopSwap_3_f_s1_b TopSwap_3_f_s1 = true := by kernel_rfl
noncomputable def TopSwap_3_f_h3 : HK := TopSwap_3_f_h2.srep TopSwap_3_f_s1_b TopSwap_3_f_s1 TopSwap_3_f_s1_ok
noncomputable def TopSwap_3_f_s2_b : Bls := TopSwap_3_f_l0
noncomputable def TopSwap_3_f_s2 : RE := ⟨87, [.v (.c (.ptr 12 0))], 516, .v (.c (o 547 0 16)), [(547, ⟨[i 0, i 0, i 0, i 0, i 0, i 1, i 0, i 0, i 2, i 0, i 0, i 3, i 0, i 0, i 4, i 0, i 0, i 5, i 0, i 0, i 6, i 0, i 0, i 7, i 0, i 0, i 8, i 0, i 0, i 9, i 0, i 0, i 10, i 0, i 0, i 11, i 0, i 0, i 12, i 0, i 0, i 13, i 0, i 0, i 14, i 0, i 0, i 15], 88, 3, none⟩)], 548⟩
theorem TopSwap_3_f_s2_ok : TopSwap_3_f_h3.srp TopSwap_3_f_s2_b TopSwap_3_f_s2 = true := by kernel_rfl
noncomputable def TopSwap_3_f_h4 : HK := TopSwap_3_f_h3.srep TopSwap_3_f_s2_b TopSwap_3_f_s2 TopSwap_3_f_s2_ok
noncomputable def TopSwap_3_f_s3_b : Bls := TopSwap_3_f_l0
noncomputable def TopSwap_3_f_s3 : RE := ⟨49, [.v (.c (.ptr 12 0)), .v (.c (.snil))], 60, .v (.c (.ptr 247 0)), TopSwap_3_f_l1, 912⟩
theorem TopSwap_3_f_s3_ok : TopSwap_3_f_h4.rep TopSwap_3_f_s3_b TopSwap_3_f_s3 = true := by kernel_rfl
noncomputable def TopSwap_3_f_h5 : HK := TopSwap_3_f_h4.repl TopSwap_3_f_s3_b TopSwap_3_f_s3 TopSwap_3_f_s3_ok
theorem TopSwap_3_f_run : isBool true (runW TopSwap_3_f_h5.K 9 [mi 7 3, ab false] s0) = true := by kernel_rfl
theorem TopSwap_3_f_law {args : Array Value} (ha : VAs (fun _ => none) [mi 7 3, ab false] args.toList) (w : World) (hT : Tab w) :
    Calls Tryz.prog 9 args w fun e w' => Below w.heap.size w w' ∧ e = .returned (.bool true) := TopSwap_3_f_h5.law TopSwap_3_f_run ha w hT
end Go.Proofs.YteajpblmbmncdaaGreatDoor
