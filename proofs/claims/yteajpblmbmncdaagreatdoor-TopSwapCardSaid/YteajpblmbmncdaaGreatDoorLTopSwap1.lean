/- Tables of calls, and a run that uses them. -/
import Derived.Test.YteajpblmbmncdaaGreatDoorLn
namespace Go.Proofs.YteajpblmbmncdaaGreatDoor
open Go Go.RowKit Ev
set_option maxRecDepth 100000
set_option linter.unusedVariables false
private noncomputable abbrev i (n : Nat) : CV := .int .i64 (.ofNat n)
private noncomputable abbrev o (b a n : Nat) : CV := .slice b a n (.opn 0)
private noncomputable abbrev f (b a n : Nat) : CV := .slice b a n (.fix n)
private noncomputable abbrev e (k t : Nat) : Nat × BK := (k, ⟨[.snil], t, 0, none⟩)
private noncomputable abbrev TopSwap_0_f_l0 : Bls := [(1, ⟨[i 0, i 0, i 0, i 0, i 1, i 0], 69, 0, none⟩),
(2, ⟨[f 1 0 3], 47, 0, none⟩),
(4, ⟨[i 1, i 0], 69, 0, none⟩),
(5, ⟨[i 0, i 0], 69, 0, none⟩),
(7, ⟨[i 1, i 0], 69, 0, none⟩),
(9, ⟨[.snil, i 0, i 0, f 4 0 1, i 0, i 0, f 5 0 1, i 0, i 0, f 7 0 1, i 1, i 0], 72, 0, none⟩),
(10, ⟨[i 0], 3, 0, none⟩),
(11, ⟨[f 10 0 1], 74, 0, none⟩),
(12, ⟨[f 2 0 1, f 9 0 4, f 11 0 1, .snil, o 32 0 1, i 0], 57, 0, none⟩),
(29, ⟨[i 0, i 0, i 1, i 0, i 1, i 0, i 1, i 0, i 1, i 0], 69, 2, none⟩),
(30, ⟨[o 44 0 6, i 3, i 0, i 0, i 0], 46, 0, none⟩),
(32, ⟨[i 0, o 29 0 5, f 30 0 1], 50, 3, none⟩),
(44, ⟨[i 1, i 0, i 0, i 0, i 1, .snil, i 5, i 1, i 0, i 0, i 0, .snil, i 5, i 2, i 0, i 0, i 0, .snil, i 6, i 4, i 2, i 0, i 0, .snil, i 9, i 0, i 4, i 0, i 0, .snil, i 8, i 0, i 1, i 0, i 0, .snil], 29, 6, none⟩)]
private noncomputable abbrev TopSwap_0_f_l1 : Bls := [(45, ⟨[o 59 0 1, o 63 0 1, o 118 0 2, o 107 0 2, o 109 0 2, i 12], 230, 0, none⟩),
(57, ⟨[i 0, i 1, i 2, i 3, i 4], 3, 1, none⟩),
(59, ⟨[o 57 0 5], 27, 1, none⟩),
(63, ⟨[i 5], 3, 1, none⟩),
(98, ⟨[i 6, i 7, i 8], 3, 1, none⟩),
(107, ⟨[i 1, i 2], 3, 1, none⟩),
(109, ⟨[i 0, i 0], 3, 1, none⟩),
(116, ⟨[i 9, i 10, i 11], 3, 1, none⟩),
(118, ⟨[o 98 0 3, o 116 0 3], 27, 1, none⟩),
(139, ⟨[o 163 0 12], 233, 0, none⟩),
(163, ⟨[i 0, i 1, i 2, i 3, i 4, i 5, i 6, i 7, i 8, i 9, i 10, i 11], 3, 1, none⟩),
(164, ⟨[.snil, .snil, .snil, .snil, .snil, .snil, .snil, .snil, .snil, .snil, .snil, .snil], 238, 0, none⟩),
(165, ⟨[o 279 0 1], 139, 0, none⟩),
(166, ⟨[], 0, 0, some (.map [] 0)⟩),
(167, ⟨[], 0, 0, some (.map [] 3)⟩),
(168, ⟨[.snil, o 483 0 0, .map 167, i 3], 237, 0, none⟩),
(169, ⟨[.ptr 12 0, .ptr 45 0, .ptr 139 0, o 271 0 12, o 274 0 12, o 277 0 12, f 164 0 12, .ptr 165 0, .map 166, .ptr 168 0], 145, 0, none⟩),
e 170 139,
e 173 139,
e 176 139,
(179, ⟨[o 463 0 1], 139, 0, none⟩),
e 185 139,
(188, ⟨[o 473 0 1], 139, 0, none⟩),
(194, ⟨[o 479 0 1], 139, 0, none⟩),
e 197 139,
e 200 139,
e 203 139,
(206, ⟨[o 481 0 1], 139, 0, none⟩),
e 212 139,
e 215 139,
e 218 139,
e 221 139,
e 224 139,
e 227 139,
e 230 139,
e 233 139,
e 236 139,
e 239 139,
e 242 139,
e 245 139,
e 248 139,
e 251 139,
e 254 139,
e 257 139,
e 260 139,
e 263 139,
e 266 139,
e 269 139,
(271, ⟨[.ptr 170 0, .ptr 179 0, .ptr 188 0, .ptr 197 0, .ptr 206 0, .ptr 215 0, .ptr 224 0, .ptr 233 0, .ptr 242 0, .ptr 251 0, .ptr 260 0, .ptr 269 0], 136, 1, none⟩),
e 272 139,
(274, ⟨[.ptr 173 0, .ptr 538 0, .ptr 544 0, .ptr 200 0, .ptr 552 0, .ptr 218 0, .ptr 227 0, .ptr 236 0, .ptr 245 0, .ptr 254 0, .ptr 263 0, .ptr 272 0], 136, 1, none⟩),
e 275 139,
(277, ⟨[.ptr 176 0, .ptr 185 0, .ptr 194 0, .ptr 203 0, .ptr 212 0, .ptr 221 0, .ptr 230 0, .ptr 239 0, .ptr 248 0, .ptr 257 0, .ptr 266 0, .ptr 275 0], 136, 1, none⟩),
(279, ⟨[.int .u64 (.ofNat 1)], 224, 1, none⟩),
(463, ⟨[.int .u64 (.ofNat 1)], 224, 1, none⟩),
(473, ⟨[.int .u64 (.ofNat 2)], 224, 1, none⟩),
(479, ⟨[.int .u64 (.ofNat 16)], 224, 1, none⟩),
(481, ⟨[.int .u64 (.ofNat 2)], 224, 1, none⟩),
(483, ⟨[i 0, i 0, i 0], 3, 1, none⟩),
(537, ⟨[.int .u64 (.ofNat 1)], 224, 1, none⟩),
(538, ⟨[o 537 0 1], 139, 0, none⟩),
(543, ⟨[.int .u64 (.ofNat 2)], 224, 1, none⟩),
(544, ⟨[o 543 0 1], 139, 0, none⟩),
(551, ⟨[.int .u64 (.ofNat 2)], 224, 1, none⟩),
(552, ⟨[o 551 0 1], 139, 0, none⟩)]
noncomputable def TopSwap_0_f_m0 : MM := ⟨[48], TopSwap_0_f_l0, 45, [⟨48, 0, [.v (.c (.ptr 12 0))], .v (.c (.nili))⟩]⟩
theorem TopSwap_0_f_m0_ok : H0.tbl TopSwap_0_f_m0 = true := by kernel_rfl
noncomputable def TopSwap_0_f_h1 : HK := H0.memo TopSwap_0_f_m0 TopSwap_0_f_m0_ok
noncomputable def TopSwap_0_f_m1 : MM := ⟨[155], [(12, ⟨[f 2 0 1, f 9 0 4, f 11 0 1, .snil, o 32 0 1, i 0], 57, 0, none⟩),
(30, ⟨[o 44 0 6, i 3, i 0, i 0, i 0], 46, 0, none⟩),
(32, ⟨[i 0, o 29 0 5, f 30 0 1], 50, 3, none⟩)], 80, [⟨155, 0, [.v (.c (.ptr 12 0)), .v (.c (i 0))], .tup [.agg [i 0, i 0, i 0], .c (.bool true)]⟩,
⟨155, 1, [.v (.c (.ptr 12 0)), .v (.c (i 1))], .tup [.agg [i 0, i 0, i 1], .c (.bool true)]⟩,
⟨155, 2, [.v (.c (.ptr 12 0)), .v (.c (i 2))], .tup [.agg [i 0, i 0, i 2], .c (.bool true)]⟩,
⟨155, 3, [.v (.c (.ptr 12 0)), .v (.c (i 3))], .tup [.agg [i 0, i 0, i 3], .c (.bool true)]⟩,
⟨155, 4, [.v (.c (.ptr 12 0)), .v (.c (i 4))], .tup [.agg [i 0, i 0, i 4], .c (.bool true)]⟩,
⟨155, 5, [.v (.c (.ptr 12 0)), .v (.c (i 5))], .tup [.agg [i 0, i 0, i 5], .c (.bool true)]⟩,
⟨155, 6, [.v (.c (.ptr 12 0)), .v (.c (i 6))], .tup [.agg [i 0, i 0, i 6], .c (.bool true)]⟩]⟩
theorem TopSwap_0_f_m1_ok : TopSwap_0_f_h1.tbl TopSwap_0_f_m1 = true := by kernel_rfl
noncomputable def TopSwap_0_f_h2 : HK := TopSwap_0_f_h1.memo TopSwap_0_f_m1 TopSwap_0_f_m1_ok
noncomputable def TopSwap_0_f_s1_b : Bls := TopSwap_0_f_l0
noncomputable def TopSwap_0_f_s1 : RE := ⟨76, [.v (.c (.ptr 12 0))], 45, .v (.c (.ptr 45 0)), [(45, ⟨[o 59 0 1, o 63 0 1, o 118 0 2, o 107 0 2, o 109 0 2, i 12], 230, 0, none⟩),
(57, ⟨[i 0, i 1, i 2, i 3, i 4], 3, 1, none⟩),
(59, ⟨[o 57 0 5], 27, 1, none⟩),
(63, ⟨[i 5], 3, 1, none⟩),
(98, ⟨[i 6, i 7, i 8], 3, 1, none⟩),
(107, ⟨[i 1, i 2], 3, 1, none⟩),
(109, ⟨[i 0, i 0], 3, 1, none⟩),
(116, ⟨[i 9, i 10, i 11], 3, 1, none⟩),
(118, ⟨[o 98 0 3, o 116 0 3], 27, 1, none⟩)], 139⟩
theorem TopSwap_0_f_s1_ok : TopSwap_0_f_h2.srp TopSwap_0_f_s1_b TopSwap_0_f_s1 = true := by kernel_rfl
noncomputable def TopSwap_0_f_h3 : HK := TopSwap_0_f_h2.srep TopSwap_0_f_s1_b TopSwap_0_f_s1 TopSwap_0_f_s1_ok
noncomputable def TopSwap_0_f_s2_b : Bls := TopSwap_0_f_l0
noncomputable def TopSwap_0_f_s2 : RE := ⟨87, [.v (.c (.ptr 12 0))], 375, .v (.c (o 388 0 7)), [(388, ⟨[i 0, i 0, i 0, i 0, i 0, i 1, i 0, i 0, i 2, i 0, i 0, i 3, i 0, i 0, i 4, i 0, i 0, i 5, i 0, i 0, i 6], 88, 3, none⟩)], 389⟩
theorem TopSwap_0_f_s2_ok : TopSwap_0_f_h3.srp TopSwap_0_f_s2_b TopSwap_0_f_s2 = true := by kernel_rfl
noncomputable def TopSwap_0_f_h4 : HK := TopSwap_0_f_h3.srep TopSwap_0_f_s2_b TopSwap_0_f_s2 TopSwap_0_f_s2_ok
noncomputable def TopSwap_0_f_s3_b : Bls := TopSwap_0_f_l0
noncomputable def TopSwap_0_f_s3 : RE := ⟨49, [.v (.c (.ptr 12 0)), .v (.c (.snil))], 45, .v (.c (.ptr 169 0)), TopSwap_0_f_l1, 553⟩
theorem TopSwap_0_f_s3_ok : TopSwap_0_f_h4.rep TopSwap_0_f_s3_b TopSwap_0_f_s3 = true := by kernel_rfl
noncomputable def TopSwap_0_f_h5 : HK := TopSwap_0_f_h4.repl TopSwap_0_f_s3_b TopSwap_0_f_s3 TopSwap_0_f_s3_ok
theorem TopSwap_0_f_run : isBool true (runW TopSwap_0_f_h5.K 9 [mi 7 0, ab false] s0) = true := by kernel_rfl
theorem TopSwap_0_f_law {args : Array Value} (ha : VAs (fun _ => none) [mi 7 0, ab false] args.toList) (w : World) (hT : Tab w) :
    Calls Tryz.prog 9 args w fun e w' => Below w.heap.size w w' ∧ e = .returned (.bool true) := TopSwap_0_f_h5.law TopSwap_0_f_run ha w hT
end Go.Proofs.YteajpblmbmncdaaGreatDoor
