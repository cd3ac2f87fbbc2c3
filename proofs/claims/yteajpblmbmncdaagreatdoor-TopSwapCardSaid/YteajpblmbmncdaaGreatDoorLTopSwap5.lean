/- Tables of calls, and a run that uses them. -/
import Derived.Test.YteajpblmbmncdaaGreatDoorLn
namespace Go.Proofs.YteajpblmbmncdaaGreatDoor
open Go Go.RowKit Ev
set_option maxRecDepth 100000
set_option linter.unusedVariables false
private noncomputable abbrev i (n : Nat) : CV := .int .i64 (.ofNat n)
private noncomputable abbrev o (b a n : Nat) : CV := .slice b a n (.opn 0)
private noncomputable abbrev f (b a n : Nat) : CV := .slice b a n (.fix n)
private noncomputable abbrev e (k t : Nat) : Nat × BK := (k, ⟨[.snil], t, 0, none⟩)
private noncomputable abbrev TopSwap_2_f_l0 : Bls := [(1, ⟨[i 0, i 0, i 0, i 0, i 1, i 0], 69, 0, none⟩),
(2, ⟨[f 1 0 3], 47, 0, none⟩),
(4, ⟨[i 1, i 0], 69, 0, none⟩),
(5, ⟨[i 0, i 0], 69, 0, none⟩),
(7, ⟨[i 1, i 0], 69, 0, none⟩),
(9, ⟨[.snil, i 0, i 0, f 4 0 1, i 0, i 0, f 5 0 1, i 0, i 0, f 7 0 1, i 1, i 0], 72, 0, none⟩),
(10, ⟨[i 0], 3, 0, none⟩),
(11, ⟨[f 10 0 1], 74, 0, none⟩),
(12, ⟨[f 2 0 1, f 9 0 4, f 11 0 1, .snil, o 32 0 1, i 0], 57, 0, none⟩),
(29, ⟨[i 0, i 0, i 1, i 0, i 1, i 0, i 1, i 0, i 1, i 0], 69, 2, none⟩),
(30, ⟨[o 54 0 12, i 3, i 0, i 0, i 0], 46, 0, none⟩),
(32, ⟨[i 0, o 29 0 5, f 30 0 1], 50, 3, none⟩),
(54, ⟨[i 1, i 0, i 0, i 0, i 1, .snil, i 5, i 1, i 0, i 0, i 0, .snil, i 5, i 2, i 0, i 0, i 0, .snil, i 6, i 4, i 2, i 0, i 0, .snil, i 9, i 0, i 4, i 0, i 0, .snil, i 6, i 3, i 1, i 0, i 0, .snil, i 6, i 1, i 2, i 0, i 0, .snil, i 6, i 2, i 3, i 0, i 0, .snil, i 6, i 3, i 1, i 0, i 0, .snil, i 6, i 1, i 2, i 0, i 0, .snil, i 6, i 2, i 3, i 0, i 0, .snil, i 8, i 0, i 1, i 0, i 0, .snil], 29, 6, none⟩)]
private noncomputable abbrev TopSwap_2_f_l1 : Bls := [(55, ⟨[o 69 0 1, o 73 0 1, o 140 0 2, o 129 0 2, o 131 0 2, i 12], 230, 0, none⟩),
(67, ⟨[i 0, i 1, i 2, i 3, i 4], 3, 1, none⟩),
(69, ⟨[o 67 0 5], 27, 1, none⟩),
(73, ⟨[i 5], 3, 1, none⟩),
(120, ⟨[i 6, i 7, i 8], 3, 1, none⟩),
(129, ⟨[i 1, i 2], 3, 1, none⟩),
(131, ⟨[i 0, i 0], 3, 1, none⟩),
(138, ⟨[i 9, i 10, i 11], 3, 1, none⟩),
(140, ⟨[o 120 0 3, o 138 0 3], 27, 1, none⟩),
(191, ⟨[o 215 0 12], 233, 0, none⟩),
(215, ⟨[i 0, i 1, i 2, i 3, i 4, i 5, i 6, i 7, i 8, i 9, i 10, i 11], 3, 1, none⟩),
(216, ⟨[.snil, .snil, .snil, .snil, .snil, .snil, .snil, .snil, .snil, .snil, .snil, .snil], 238, 0, none⟩),
(217, ⟨[o 331 0 1], 139, 0, none⟩),
(218, ⟨[], 0, 0, some (.map [] 0)⟩),
(219, ⟨[], 0, 0, some (.map [] 4)⟩),
(220, ⟨[.snil, o 663 0 0, .map 219, i 4], 237, 0, none⟩),
(221, ⟨[.ptr 12 0, .ptr 55 0, .ptr 191 0, o 323 0 12, o 326 0 12, o 329 0 12, f 216 0 12, .ptr 217 0, .map 218, .ptr 220 0], 145, 0, none⟩),
e 222 139,
e 225 139,
e 228 139,
(231, ⟨[o 635 0 1], 139, 0, none⟩),
(237, ⟨[o 659 0 1], 139, 0, none⟩),
(240, ⟨[o 645 0 1], 139, 0, none⟩),
(246, ⟨[o 651 0 1], 139, 0, none⟩),
(249, ⟨[o 661 0 1], 139, 0, none⟩),
(255, ⟨[o 669 0 1], 139, 0, none⟩),
(258, ⟨[o 653 0 1], 139, 0, none⟩),
e 264 139,
e 267 139,
e 270 139,
e 273 139,
e 276 139,
e 279 139,
e 282 139,
e 285 139,
e 288 139,
e 291 139,
e 294 139,
e 297 139,
e 300 139,
e 303 139,
e 306 139,
e 309 139,
e 312 139,
e 315 139,
e 318 139,
e 321 139,
(323, ⟨[.ptr 222 0, .ptr 231 0, .ptr 240 0, .ptr 249 0, .ptr 258 0, .ptr 267 0, .ptr 276 0, .ptr 285 0, .ptr 294 0, .ptr 303 0, .ptr 312 0, .ptr 321 0], 136, 1, none⟩),
e 324 139,
(326, ⟨[.ptr 225 0, .ptr 772 0, .ptr 780 0, .ptr 796 0, .ptr 790 0, .ptr 270 0, .ptr 279 0, .ptr 288 0, .ptr 297 0, .ptr 306 0, .ptr 315 0, .ptr 324 0], 136, 1, none⟩),
e 327 139,
(329, ⟨[.ptr 228 0, .ptr 237 0, .ptr 246 0, .ptr 255 0, .ptr 264 0, .ptr 273 0, .ptr 282 0, .ptr 291 0, .ptr 300 0, .ptr 309 0, .ptr 318 0, .ptr 327 0], 136, 1, none⟩),
(331, ⟨[.int .u64 (.ofNat 1)], 224, 1, none⟩),
(635, ⟨[.int .u64 (.ofNat 3)], 224, 1, none⟩),
(645, ⟨[.int .u64 (.ofNat 3)], 224, 1, none⟩),
(651, ⟨[.int .u64 (.ofNat 18)], 224, 1, none⟩),
(653, ⟨[.int .u64 (.ofNat 3)], 224, 1, none⟩),
(659, ⟨[.int .u64 (.ofNat 8)], 224, 1, none⟩),
(661, ⟨[.int .u64 (.ofNat 3)], 224, 1, none⟩),
(663, ⟨[i 0, i 0, i 0, i 0], 3, 1, none⟩),
(669, ⟨[.int .u64 (.ofNat 4)], 224, 1, none⟩),
(771, ⟨[.int .u64 (.ofNat 3)], 224, 1, none⟩),
(772, ⟨[o 771 0 1], 139, 0, none⟩),
(779, ⟨[.int .u64 (.ofNat 3)], 224, 1, none⟩),
(780, ⟨[o 779 0 1], 139, 0, none⟩),
(789, ⟨[.int .u64 (.ofNat 3)], 224, 1, none⟩),
(790, ⟨[o 789 0 1], 139, 0, none⟩),
(795, ⟨[.int .u64 (.ofNat 3)], 224, 1, none⟩),
(796, ⟨[o 795 0 1], 139, 0, none⟩)]
noncomputable def TopSwap_2_f_m0 : MM := ⟨[48], TopSwap_2_f_l0, 55, [⟨48, 0, [.v (.c (.ptr 12 0))], .v (.c (.nili))⟩]⟩
theorem TopSwap_2_f_m0_ok : H0.tbl TopSwap_2_f_m0 = true := by kernel_rfl
noncomputable def TopSwap_2_f_h1 : HK := H0.memo TopSwap_2_f_m0 TopSwap_2_f_m0_ok
noncomputable def TopSwap_2_f_m1 : MM := ⟨[155], [(12, ⟨[f 2 0 1, f 9 0 4, f 11 0 1, .snil, o 32 0 1, i 0], 57, 0, none⟩),
(30, ⟨[o 54 0 12, i 3, i 0, i 0, i 0], 46, 0, none⟩),
(32, ⟨[i 0, o 29 0 5, f 30 0 1], 50, 3, none⟩)], 102, [⟨155, 0, [.v (.c (.ptr 12 0)), .v (.c (i 0))], .tup [.agg [i 0, i 0, i 0], .c (.bool true)]⟩,
⟨155, 1, [.v (.c (.ptr 12 0)), .v (.c (i 1))], .tup [.agg [i 0, i 0, i 1], .c (.bool true)]⟩,
⟨155, 2, [.v (.c (.ptr 12 0)), .v (.c (i 2))], .tup [.agg [i 0, i 0, i 2], .c (.bool true)]⟩,
⟨155, 3, [.v (.c (.ptr 12 0)), .v (.c (i 3))], .tup [.agg [i 0, i 0, i 3], .c (.bool true)]⟩,
⟨155, 4, [.v (.c (.ptr 12 0)), .v (.c (i 4))], .tup [.agg [i 0, i 0, i 4], .c (.bool true)]⟩,
⟨155, 5, [.v (.c (.ptr 12 0)), .v (.c (i 5))], .tup [.agg [i 0, i 0, i 5], .c (.bool true)]⟩,
⟨155, 6, [.v (.c (.ptr 12 0)), .v (.c (i 6))], .tup [.agg [i 0, i 0, i 6], .c (.bool true)]⟩,
⟨155, 7, [.v (.c (.ptr 12 0)), .v (.c (i 7))], .tup [.agg [i 0, i 0, i 7], .c (.bool true)]⟩,
⟨155, 8, [.v (.c (.ptr 12 0)), .v (.c (i 8))], .tup [.agg [i 0, i 0, i 8], .c (.bool true)]⟩,
⟨155, 9, [.v (.c (.ptr 12 0)), .v (.c (i 9))], .tup [.agg [i 0, i 0, i 9], .c (.bool true)]⟩,
⟨155, 10, [.v (.c (.ptr 12 0)), .v (.c (i 10))], .tup [.agg [i 0, i 0, i 10], .c (.bool true)]⟩,
⟨155, 11, [.v (.c (.ptr 12 0)), .v (.c (i 11))], .tup [.agg [i 0, i 0, i 11], .c (.bool true)]⟩,
⟨155, 12, [.v (.c (.ptr 12 0)), .v (.c (i 12))], .tup [.agg [i 0, i 0, i 12], .c (.bool true)]⟩]⟩
theorem TopSwap_2_f_m1_ok : TopSwap_2_f_h1.tbl TopSwap_2_f_m1 = true := by kernel_rfl
noncomputable def TopSwap_2_f_h2 : HK := TopSwap_2_f_h1.memo TopSwap_2_f_m1 TopSwap_2_f_m1_ok
noncomputable def TopSwap_2_f_s1_b : Bls := TopSwap_2_f_l0
noncomputable def TopSwap_2_f_s1 : RE := ⟨76, [.v (.c (.ptr 12 0))], 55, .v (.c (.ptr 55 0)), [(55, ⟨[o 69 0 1, o 73 0 1, o 140 0 2, o 129 0 2, o 131 0 2, i 12], 230, 0, none⟩),
(67, ⟨[i 0, i 1, i 2, i 3, i 4], 3, 1, none⟩),
(69, ⟨[o 67 0 5], 27, 1, none⟩),
(73, ⟨[i 5], 3, 1, none⟩),
(120, ⟨[i 6, i 7, i 8], 3, 1, none⟩),
(129, ⟨[i 1, i 2], 3, 1, none⟩),
(131, ⟨[i 0, i 0], 3, 1, none⟩),
(138, ⟨[i 9, i 10, i 11], 3, 1, none⟩),
(140, ⟨[o 120 0 3, o 138 0 3], 27, 1, none⟩)], 191⟩
theorem TopSwap_2_f_s1_ok : TopSwap_2_f_h2.srp TopSwap_2_f_s1_b TopSwap_2_f_s1 = true := by kernel_rfl
noncomputable def TopSwap_2_f_h3 : HK := TopSwap_2_f_h2.srep TopSwap_2_f_s1_b TopSwap_2_f_s1 TopSwap_2_f_s1_ok
noncomputable def TopSwap_2_f_s2_b : Bls := TopSwap_2_f_l0
noncomputable def TopSwap_2_f_s2 : RE := ⟨87, [.v (.c (.ptr 12 0))], 469, .v (.c (o 494 0 13)), [(494, ⟨[i 0, i 0, i 0, i 0, i 0, i 1, i 0, i 0, i 2, i 0, i 0, i 3, i 0, i 0, i 4, i 0, i 0, i 5, i 0, i 0, i 6, i 0, i 0, i 7, i 0, i 0, i 8, i 0, i 0, i 9, i 0, i 0, i 10, i 0, i 0, i 11, i 0, i 0, i 12], 88, 3, none⟩)], 495⟩
theorem TopSwap_2_f_s2_ok : TopSwap_2_f_h3.srp TopSwap_2_f_s2_b TopSwap_2_f_s2 = true := by kernel_rfl
noncomputable def TopSwap_2_f_h4 : HK := TopSwap_2_f_h3.srep TopSwap_2_f_s2_b TopSwap_2_f_s2 TopSwap_2_f_s2_ok
noncomputable def TopSwap_2_f_s3_b : Bls := TopSwap_2_f_l0
noncomputable def TopSwap_2_f_s3 : RE := ⟨49, [.v (.c (.ptr 12 0)), .v (.c (.snil))], 55, .v (.c (.ptr 221 0)), TopSwap_2_f_l1, 799⟩
theorem TopSwap_2_f_s3_ok : TopSwap_2_f_h4.rep TopSwap_2_f_s3_b TopSwap_2_f_s3 = true := by kernel_rfl
noncomputable def TopSwap_2_f_h5 : HK := TopSwap_2_f_h4.repl TopSwap_2_f_s3_b TopSwap_2_f_s3 TopSwap_2_f_s3_ok
theorem TopSwap_2_f_run : isBool true (runW TopSwap_2_f_h5.K 9 [mi 7 2, ab false] s0) = true := by kernel_rfl
theorem TopSwap_2_f_law {args : Array Value} (ha : VAs (fun _ => none) [mi 7 2, ab false] args.toList) (w : World) (hT : Tab w) :
    Calls Tryz.prog 9 args w fun e w' => Below w.heap.size w w' ∧ e = .returned (.bool true) := TopSwap_2_f_h5.law TopSwap_2_f_run ha w hT
end Go.Proofs.YteajpblmbmncdaaGreatDoor
