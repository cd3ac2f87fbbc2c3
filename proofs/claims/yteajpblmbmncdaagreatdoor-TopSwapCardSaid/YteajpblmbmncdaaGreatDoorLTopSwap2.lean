/- Tables of calls, and a run that uses them. -/
import Derived.Test.YteajpblmbmncdaaGreatDoorLn
namespace Go.Proofs.YteajpblmbmncdaaGreatDoor
open Go Go.RowKit Ev
set_option maxRecDepth 100000
set_option linter.unusedVariables false
private noncomputable abbrev i (n : Nat) : CV := .int .i64 (.ofNat n)
private noncomputable abbrev o (b a n : Nat) : CV := .slice b a n (.opn 0)
private noncomputable abbrev f (b a n : Nat) : CV := .slice b a n (.fix n)
private noncomputable abbrev e (k t : Nat) : Nat × BK := (k, ⟨[.snil], t, 0, none⟩)
private noncomputable abbrev TopSwap_1_t_l0 : Bls := [(1, ⟨[i 0, i 0, i 0, i 0, i 1, i 0], 69, 0, none⟩),
(2, ⟨[f 1 0 3], 47, 0, none⟩),
(4, ⟨[i 1, i 0], 69, 0, none⟩),
(5, ⟨[i 0, i 0], 69, 0, none⟩),
(7, ⟨[i 1, i 0], 69, 0, none⟩),
(9, ⟨[.snil, i 0, i 0, f 4 0 1, i 0, i 0, f 5 0 1, i 0, i 0, f 7 0 1, i 1, i 0], 72, 0, none⟩),
(10, ⟨[i 0], 3, 0, none⟩),
(11, ⟨[f 10 0 1], 74, 0, none⟩),
(12, ⟨[f 2 0 1, f 9 0 4, f 11 0 1, .snil, o 32 0 1, i 0], 57, 0, none⟩),
(29, ⟨[i 0, i 0, i 1, i 0, i 1, i 0, i 1, i 0, i 1, i 0], 69, 2, none⟩),
(30, ⟨[o 49 0 9, i 3, i 0, i 0, i 0], 46, 0, none⟩),
(32, ⟨[i 0, o 29 0 5, f 30 0 1], 50, 3, none⟩),
(49, ⟨[i 1, i 0, i 0, i 0, i 1, .snil, i 5, i 1, i 0, i 0, i 0, .snil, i 5, i 2, i 0, i 0, i 0, .snil, i 6, i 4, i 1, i 0, i 0, .snil, i 9, i 0, i 4, i 0, i 0, .snil, i 6, i 3, i 1, i 0, i 0, .snil, i 6, i 1, i 2, i 0, i 0, .snil, i 6, i 2, i 3, i 0, i 0, .snil, i 8, i 0, i 1, i 0, i 0, .snil], 29, 6, none⟩)]
private noncomputable abbrev TopSwap_1_t_l1 : Bls := [(50, ⟨[o 64 0 1, o 68 0 1, o 129 0 2, o 118 0 2, o 120 0 2, i 12], 230, 0, none⟩),
(62, ⟨[i 0, i 1, i 2, i 3, i 4], 3, 1, none⟩),
(64, ⟨[o 62 0 5], 27, 1, none⟩),
(68, ⟨[i 5], 3, 1, none⟩),
(109, ⟨[i 6, i 7, i 8], 3, 1, none⟩),
(118, ⟨[i 1, i 2], 3, 1, none⟩),
(120, ⟨[i 0, i 0], 3, 1, none⟩),
(127, ⟨[i 9, i 10, i 11], 3, 1, none⟩),
(129, ⟨[o 109 0 3, o 127 0 3], 27, 1, none⟩),
(165, ⟨[o 189 0 12], 233, 0, none⟩),
(189, ⟨[i 0, i 1, i 2, i 3, i 4, i 5, i 6, i 7, i 8, i 9, i 10, i 11], 3, 1, none⟩),
(190, ⟨[.snil, .snil, .snil, .snil, .snil, .snil, .snil, .snil, .snil, .snil, .snil, .snil], 238, 0, none⟩),
(191, ⟨[o 305 0 1], 139, 0, none⟩),
(192, ⟨[], 0, 0, some (.map [] 0)⟩),
(193, ⟨[], 0, 0, some (.map [] 4)⟩),
(194, ⟨[.snil, o 575 0 0, .map 193, i 4], 237, 0, none⟩),
(195, ⟨[.ptr 12 0, .ptr 50 0, .ptr 165 0, o 297 0 12, o 300 0 12, o 303 0 12, f 190 0 12, .ptr 191 0, .map 192, .ptr 194 0], 145, 0, none⟩),
e 196 139,
e 199 139,
e 202 139,
(205, ⟨[o 549 0 1], 139, 0, none⟩),
(211, ⟨[o 565 0 1], 139, 0, none⟩),
(214, ⟨[o 559 0 1], 139, 0, none⟩),
(220, ⟨[o 579 0 1], 139, 0, none⟩),
(223, ⟨[o 573 0 1], 139, 0, none⟩),
(229, ⟨[o 583 0 1], 139, 0, none⟩),
(232, ⟨[o 567 0 1], 139, 0, none⟩),
e 238 139,
e 241 139,
e 244 139,
e 247 139,
e 250 139,
e 253 139,
e 256 139,
e 259 139,
e 262 139,
e 265 139,
e 268 139,
e 271 139,
e 274 139,
e 277 139,
e 280 139,
e 283 139,
e 286 139,
e 289 139,
e 292 139,
e 295 139,
(297, ⟨[.ptr 196 0, .ptr 205 0, .ptr 214 0, .ptr 223 0, .ptr 232 0, .ptr 241 0, .ptr 250 0, .ptr 259 0, .ptr 268 0, .ptr 277 0, .ptr 286 0, .ptr 295 0], 136, 1, none⟩),
e 298 139,
(300, ⟨[.ptr 199 0, .ptr 659 0, .ptr 669 0, .ptr 683 0, .ptr 677 0, .ptr 244 0, .ptr 253 0, .ptr 262 0, .ptr 271 0, .ptr 280 0, .ptr 289 0, .ptr 298 0], 136, 1, none⟩),
e 301 139,
(303, ⟨[.ptr 202 0, .ptr 211 0, .ptr 220 0, .ptr 229 0, .ptr 238 0, .ptr 247 0, .ptr 256 0, .ptr 265 0, .ptr 274 0, .ptr 283 0, .ptr 292 0, .ptr 301 0], 136, 1, none⟩),
(305, ⟨[.int .u64 (.ofNat 1)], 224, 1, none⟩),
(549, ⟨[.int .u64 (.ofNat 3)], 224, 1, none⟩),
(559, ⟨[.int .u64 (.ofNat 3)], 224, 1, none⟩),
(565, ⟨[.int .u64 (.ofNat 24)], 224, 1, none⟩),
(567, ⟨[.int .u64 (.ofNat 3)], 224, 1, none⟩),
(573, ⟨[.int .u64 (.ofNat 3)], 224, 1, none⟩),
(575, ⟨[i 0, i 0, i 0, i 0], 3, 1, none⟩),
(579, ⟨[.int .u64 (.ofNat 2)], 224, 1, none⟩),
(583, ⟨[.int .u64 (.ofNat 4)], 224, 1, none⟩),
(658, ⟨[.int .u64 (.ofNat 3)], 224, 1, none⟩),
(659, ⟨[o 658 0 1], 139, 0, none⟩),
(668, ⟨[.int .u64 (.ofNat 3)], 224, 1, none⟩),
(669, ⟨[o 668 0 1], 139, 0, none⟩),
(676, ⟨[.int .u64 (.ofNat 3)], 224, 1, none⟩),
(677, ⟨[o 676 0 1], 139, 0, none⟩),
(682, ⟨[.int .u64 (.ofNat 3)], 224, 1, none⟩),
(683, ⟨[o 682 0 1], 139, 0, none⟩)]
noncomputable def TopSwap_1_t_m0 : MM := ⟨[48], TopSwap_1_t_l0, 50, [⟨48, 0, [.v (.c (.ptr 12 0))], .v (.c (.nili))⟩]⟩
theorem TopSwap_1_t_m0_ok : H0.tbl TopSwap_1_t_m0 = true := by kernel_rfl
noncomputable def TopSwap_1_t_h1 : HK := H0.memo TopSwap_1_t_m0 TopSwap_1_t_m0_ok
noncomputable def TopSwap_1_t_m1 : MM := ⟨[155], [(12, ⟨[f 2 0 1, f 9 0 4, f 11 0 1, .snil, o 32 0 1, i 0], 57, 0, none⟩),
(30, ⟨[o 49 0 9, i 3, i 0, i 0, i 0], 46, 0, none⟩),
(32, ⟨[i 0, o 29 0 5, f 30 0 1], 50, 3, none⟩)], 91, [⟨155, 0, [.v (.c (.ptr 12 0)), .v (.c (i 0))], .tup [.agg [i 0, i 0, i 0], .c (.bool true)]⟩,
⟨155, 1, [.v (.c (.ptr 12 0)), .v (.c (i 1))], .tup [.agg [i 0, i 0, i 1], .c (.bool true)]⟩,
⟨155, 2, [.v (.c (.ptr 12 0)), .v (.c (i 2))], .tup [.agg [i 0, i 0, i 2], .c (.bool true)]⟩,
⟨155, 3, [.v (.c (.ptr 12 0)), .v (.c (i 3))], .tup [.agg [i 0, i 0, i 3], .c (.bool true)]⟩,
⟨155, 4, [.v (.c (.ptr 12 0)), .v (.c (i 4))], .tup [.agg [i 0, i 0, i 4], .c (.bool true)]⟩,
⟨155, 5, [.v (.c (.ptr 12 0)), .v (.c (i 5))], .tup [.agg [i 0, i 0, i 5], .c (.bool true)]⟩,
⟨155, 6, [.v (.c (.ptr 12 0)), .v (.c (i 6))], .tup [.agg [i 0, i 0, i 6], .c (.bool true)]⟩,
⟨155, 7, [.v (.c (.ptr 12 0)), .v (.c (i 7))], .tup [.agg [i 0, i 0, i 7], .c (.bool true)]⟩,
⟨155, 8, [.v (.c (.ptr 12 0)), .v (.c (i 8))], .tup [.agg [i 0, i 0, i 8], .c (.bool true)]⟩,
⟨155, 9, [.v (.c (.ptr 12 0)), .v (.c (i 9))], .tup [.agg [i 0, i 0, i 9], .c (.bool true)]⟩]⟩
theorem TopSwap_1_t_m1_ok : TopSwap_1_t_h1.tbl TopSwap_1_t_m1 = true := by kernel_rfl
noncomputable def TopSwap_1_t_h2 : HK := TopSwap_1_t_h1.memo TopSwap_1_t_m1 TopSwap_1_t_m1_ok
noncomputable def TopSwap_1_t_s1_b : Bls := TopSwap_1_t_l0
noncomputable def TopSwap_1_t_s1 : RE := ⟨76, [.v (.c (.ptr 12 0))], 50, .v (.c (.ptr 50 0)), [(50, ⟨[o 64 0 1, o 68 0 1, o 129 0 2, o 118 0 2, o 120 0 2, i 12], 230, 0, none⟩),
(62, ⟨[i 0, i 1, i 2, i 3, i 4], 3, 1, none⟩),
(64, ⟨[o 62 0 5], 27, 1, none⟩),
(68, ⟨[i 5], 3, 1, none⟩),
(109, ⟨[i 6, i 7, i 8], 3, 1, none⟩),
(118, ⟨[i 1, i 2], 3, 1, none⟩),
(120, ⟨[i 0, i 0], 3, 1, none⟩),
(127, ⟨[i 9, i 10, i 11], 3, 1, none⟩),
(129, ⟨[o 109 0 3, o 127 0 3], 27, 1, none⟩)], 165⟩
theorem TopSwap_1_t_s1_ok : TopSwap_1_t_h2.srp TopSwap_1_t_s1_b TopSwap_1_t_s1 = true := by kernel_rfl
noncomputable def TopSwap_1_t_h3 : HK := TopSwap_1_t_h2.srep TopSwap_1_t_s1_b TopSwap_1_t_s1 TopSwap_1_t_s1_ok
noncomputable def TopSwap_1_t_s2_b : Bls := TopSwap_1_t_l0
noncomputable def TopSwap_1_t_s2 : RE := ⟨87, [.v (.c (.ptr 12 0))], 422, .v (.c (o 441 0 10)), [(441, ⟨[i 0, i 0, i 0, i 0, i 0, i 1, i 0, i 0, i 2, i 0, i 0, i 3, i 0, i 0, i 4, i 0, i 0, i 5, i 0, i 0, i 6, i 0, i 0, i 7, i 0, i 0, i 8, i 0, i 0, i 9], 88, 3, none⟩)], 442⟩
theorem TopSwap_1_t_s2_ok : TopSwap_1_t_h3.srp TopSwap_1_t_s2_b TopSwap_1_t_s2 = true := by kernel_rfl
noncomputable def TopSwap_1_t_h4 : HK := TopSwap_1_t_h3.srep TopSwap_1_t_s2_b TopSwap_1_t_s2 TopSwap_1_t_s2_ok
noncomputable def TopSwap_1_t_s3_b : Bls := TopSwap_1_t_l0
noncomputable def TopSwap_1_t_s3 : RE := ⟨49, [.v (.c (.ptr 12 0)), .v (.c (.snil))], 50, .v (.c (.ptr 195 0)), TopSwap_1_t_l1, 686⟩
theorem TopSwap_1_t_s3_ok : TopSwap_1_t_h4.rep TopSwap_1_t_s3_b TopSwap_1_t_s3 = true := by kernel_rfl
noncomputable def TopSwap_1_t_h5 : HK := TopSwap_1_t_h4.repl TopSwap_1_t_s3_b TopSwap_1_t_s3 TopSwap_1_t_s3_ok
theorem TopSwap_1_t_run : isBool true (runW TopSwap_1_t_h5.K 9 [mi 7 1, ab true] s0) = true := by kernel_rfl
theorem TopSwap_1_t_law {args : Array Value} (ha : VAs (fun _ => none) [mi 7 1, ab true] args.toList) (w : World) (hT : Tab w) :
    Calls Tryz.prog 9 args w fun e w' => Below w.heap.size w w' ∧ e = .returned (.bool true) := TopSwap_1_t_h5.law TopSwap_1_t_run ha w hT
end Go.Proofs.YteajpblmbmncdaaGreatDoor
