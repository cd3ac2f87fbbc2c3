/- Tables of calls, and a run that uses them. -/
import Derived.Test.YtjjfahgdmaikpaaGreatDoorLn20
namespace Go.Proofs.YtjjfahgdmaikpaaGreatDoor
open Go Go.RowKit Ev
set_option maxRecDepth 100000
set_option linter.unusedVariables false
private noncomputable abbrev i (n : Nat) : CV := .int .i64 (.ofNat n)
private noncomputable abbrev o (b a n : Nat) : CV := .slice b a n (.opn 0)
private noncomputable abbrev f (b a n : Nat) : CV := .slice b a n (.fix n)
private noncomputable abbrev e (k t : Nat) : Nat × BK := (k, ⟨[.snil], t, 0, none⟩)
private noncomputable abbrev ModrefChain_3t_l0 : Bls := [(3, ⟨[o 16 0 3, i 3, i 0, i 0, i 0], 51, 0, none⟩),
(5, ⟨[f 8 0 1, o 11 0 2, .snil, .snil, o 39 0 4, i 0], 44, 0, none⟩),
(7, ⟨[i 0, i 0, i 0, i 0], 36, 0, none⟩),
(8, ⟨[f 7 0 2], 37, 0, none⟩),
(9, ⟨[i 1, i 0], 36, 0, none⟩),
(11, ⟨[.snil, i 0, i 0, f 9 0 1, i 0, i 0], 63, 3, none⟩),
(13, ⟨[i 0, i 0, i 1, i 0], 36, 2, none⟩),
(14, ⟨[i 1], 3, 0, none⟩),
(16, ⟨[i 1, i 0, i 0, i 0, i 7, .snil, i 5, i 1, i 0, i 0, i 0, .snil, i 12, i 0, i 0, i 0, i 1, f 14 0 1], 53, 6, none⟩),
(18, ⟨[i 0], 3, 0, none⟩),
(20, ⟨[i 1, i 1, i 0, i 0, i 0, .snil, i 12, i 1, i 0, i 0, i 2, f 18 0 1], 53, 6, none⟩),
(21, ⟨[i 1, i 0, i 0, i 0], 36, 0, none⟩),
(22, ⟨[o 20 0 2, i 3, i 1, i 0, i 0], 51, 0, none⟩),
(26, ⟨[i 0], 3, 0, none⟩),
(28, ⟨[i 1, i 1, i 0, i 0, i 0, .snil, i 12, i 1, i 0, i 0, i 3, f 26 0 1], 53, 6, none⟩),
(29, ⟨[i 1, i 0, i 0, i 0], 36, 0, none⟩),
(30, ⟨[o 28 0 2, i 3, i 1, i 0, i 0], 51, 0, none⟩),
(35, ⟨[i 1, i 1, i 0, i 0, i 0, .snil, i 8, i 0, i 0, i 1, i 1, .snil], 53, 6, none⟩),
(36, ⟨[i 1, i 0, i 0, i 0], 36, 0, none⟩),
(37, ⟨[o 35 0 2, i 3, i 1, i 0, i 0], 51, 0, none⟩),
(39, ⟨[i 0, o 13 0 2, f 3 0 1, i 1, f 21 0 2, f 22 0 1, i 1, f 29 0 2, f 30 0 1, i 1, f 36 0 2, f 37 0 1], 48, 3, none⟩)]
private noncomputable abbrev ModrefChain_3t_l1 : Bls := [(3, ⟨[o 16 0 3, i 3, i 0, i 0, i 0], 51, 0, none⟩),
(5, ⟨[f 8 0 1, o 11 0 2, .snil, .snil, o 39 0 4, i 0], 44, 0, none⟩),
(22, ⟨[o 20 0 2, i 3, i 1, i 0, i 0], 51, 0, none⟩),
(30, ⟨[o 28 0 2, i 3, i 1, i 0, i 0], 51, 0, none⟩),
(37, ⟨[o 35 0 2, i 3, i 1, i 0, i 0], 51, 0, none⟩),
(39, ⟨[i 0, o 13 0 2, f 3 0 1, i 1, f 21 0 2, f 22 0 1, i 1, f 29 0 2, f 30 0 1, i 1, f 36 0 2, f 37 0 1], 48, 3, none⟩)]
private noncomputable abbrev ModrefChain_3t_l2 : Bls := [(40, ⟨[o 84 0 4, o 88 0 4, o 135 0 1, o 126 0 1, o 128 0 1, i 14], 173, 0, none⟩),
(46, ⟨[i 0, i 1], 3, 1, none⟩),
(58, ⟨[i 3, i 4], 3, 1, none⟩),
(70, ⟨[i 6, i 7], 3, 1, none⟩),
(82, ⟨[i 9, i 10], 3, 1, none⟩),
(84, ⟨[o 46 0 2, o 58 0 2, o 70 0 2, o 82 0 2], 25, 1, none⟩),
(88, ⟨[i 2, i 5, i 8, i 11], 3, 1, none⟩),
(126, ⟨[i 1], 3, 1, none⟩),
(128, ⟨[i 0], 3, 1, none⟩),
(133, ⟨[i 12, i 13], 3, 1, none⟩),
(135, ⟨[o 133 0 2], 25, 1, none⟩)]
private noncomputable abbrev ModrefChain_3t_l3 : Bls := [(40, ⟨[o 84 0 4, o 88 0 4, o 135 0 1, o 126 0 1, o 128 0 1, i 14], 173, 0, none⟩),
(46, ⟨[i 0, i 1], 3, 1, none⟩),
(58, ⟨[i 3, i 4], 3, 1, none⟩),
(70, ⟨[i 6, i 7], 3, 1, none⟩),
(82, ⟨[i 9, i 10], 3, 1, none⟩),
(84, ⟨[o 46 0 2, o 58 0 2, o 70 0 2, o 82 0 2], 25, 1, none⟩),
(88, ⟨[i 2, i 5, i 8, i 11], 3, 1, none⟩),
(126, ⟨[i 1], 3, 1, none⟩),
(128, ⟨[i 0], 3, 1, none⟩),
(133, ⟨[i 12, i 13], 3, 1, none⟩),
(135, ⟨[o 133 0 2], 25, 1, none⟩),
(191, ⟨[o 219 0 14], 175, 0, none⟩),
(219, ⟨[i 0, i 1, i 2, i 3, i 4, i 5, i 6, i 7, i 8, i 9, i 10, i 11, i 12, i 13], 3, 1, none⟩),
(220, ⟨[.snil, .snil, .snil, .snil, .snil, .snil, .snil, .snil, .snil, .snil, .snil, .snil, .snil, .snil], 179, 0, none⟩),
(221, ⟨[o 353 0 1], 100, 0, none⟩),
(222, ⟨[], 0, 0, some (.map [(0, .agg [i 2, i 1], .c (.bool true)), (1, .agg [i 5, i 2], .c (.bool true)), (2, .agg [i 8, i 3], .c (.bool true))] 3)⟩),
(223, ⟨[], 0, 0, some (.map [] 4)⟩),
(224, ⟨[.snil, o 1476 0 0, .map 223, i 4], 178, 0, none⟩),
(225, ⟨[.ptr 5 0, .ptr 40 0, .ptr 191 0, o 345 0 14, o 348 0 14, o 351 0 14, f 220 0 14, .ptr 221 0, .map 222, .ptr 224 0], 106, 0, none⟩),
e 226 100,
e 229 100,
e 232 100,
(235, ⟨[o 589 0 1], 100, 0, none⟩),
(241, ⟨[o 595 0 1], 100, 0, none⟩),
e 244 100,
e 247 100,
e 250 100,
(253, ⟨[o 597 0 1], 100, 0, none⟩),
(259, ⟨[o 1026 0 1], 100, 0, none⟩),
e 262 100,
e 265 100,
e 268 100,
e 271 100,
e 274 100,
e 277 100,
(280, ⟨[o 1028 0 1], 100, 0, none⟩),
(286, ⟨[o 1472 0 1], 100, 0, none⟩),
e 289 100,
e 292 100,
e 295 100,
e 298 100,
e 301 100,
e 304 100,
(307, ⟨[o 1474 0 1], 100, 0, none⟩),
e 313 100,
e 316 100,
e 319 100,
e 322 100,
e 325 100,
e 328 100,
e 331 100,
e 334 100,
e 337 100,
e 340 100,
e 343 100,
(345, ⟨[.ptr 226 0, .ptr 235 0, .ptr 244 0, .ptr 253 0, .ptr 262 0, .ptr 271 0, .ptr 280 0, .ptr 289 0, .ptr 298 0, .ptr 307 0, .ptr 316 0, .ptr 325 0, .ptr 334 0, .ptr 343 0], 97, 1, none⟩),
e 346 100,
(348, ⟨[.ptr 229 0, .ptr 2126 0, .ptr 247 0, .ptr 2134 0, .ptr 265 0, .ptr 274 0, .ptr 2142 0, .ptr 292 0, .ptr 301 0, .ptr 2150 0, .ptr 319 0, .ptr 328 0, .ptr 337 0, .ptr 346 0], 97, 1, none⟩),
e 349 100,
(351, ⟨[.ptr 232 0, .ptr 241 0, .ptr 250 0, .ptr 259 0, .ptr 268 0, .ptr 277 0, .ptr 286 0, .ptr 295 0, .ptr 304 0, .ptr 313 0, .ptr 322 0, .ptr 331 0, .ptr 340 0, .ptr 349 0], 97, 1, none⟩),
(353, ⟨[.int .u64 (.ofNat 15)], 192, 1, none⟩),
(589, ⟨[.int .u64 (.ofNat 1)], 192, 1, none⟩),
(595, ⟨[.int .u64 (.ofNat 8)], 192, 1, none⟩),
(597, ⟨[.int .u64 (.ofNat 1)], 192, 1, none⟩),
(1026, ⟨[.int .u64 (.ofNat 64)], 192, 1, none⟩),
(1028, ⟨[.int .u64 (.ofNat 1)], 192, 1, none⟩),
(1472, ⟨[.int .u64 (.ofNat 512)], 192, 1, none⟩),
(1474, ⟨[.int .u64 (.ofNat 1)], 192, 1, none⟩),
(1476, ⟨[i 0, i 0, i 0, i 0], 3, 1, none⟩),
(2125, ⟨[.int .u64 (.ofNat 1)], 192, 1, none⟩),
(2126, ⟨[o 2125 0 1], 100, 0, none⟩),
(2133, ⟨[.int .u64 (.ofNat 1)], 192, 1, none⟩),
(2134, ⟨[o 2133 0 1], 100, 0, none⟩),
(2141, ⟨[.int .u64 (.ofNat 1)], 192, 1, none⟩),
(2142, ⟨[o 2141 0 1], 100, 0, none⟩),
(2149, ⟨[.int .u64 (.ofNat 1)], 192, 1, none⟩),
(2150, ⟨[o 2149 0 1], 100, 0, none⟩)]
noncomputable def ModrefChain_3t_m0 : MM := ⟨[100], ModrefChain_3t_l0, 40, [⟨100, 0, [.v (.c (.ptr 5 0))], .v (.c (.nili))⟩]⟩
theorem ModrefChain_3t_m0_ok : H0.tbl ModrefChain_3t_m0 = true := by kernel_rfl
noncomputable def ModrefChain_3t_h1 : HK := H0.memo ModrefChain_3t_m0 ModrefChain_3t_m0_ok
noncomputable def ModrefChain_3t_m1 : MM := ⟨[71], ModrefChain_3t_l1, 117, [⟨71, 0, [.v (.c (.ptr 5 0)), .v (.c (i 0))], .tup [.agg [i 0, i 0, i 0], .c (.bool true)]⟩,
⟨71, 1, [.v (.c (.ptr 5 0)), .v (.c (i 1))], .tup [.agg [i 0, i 0, i 1], .c (.bool true)]⟩,
⟨71, 2, [.v (.c (.ptr 5 0)), .v (.c (i 2))], .tup [.agg [i 0, i 0, i 2], .c (.bool true)]⟩,
⟨71, 3, [.v (.c (.ptr 5 0)), .v (.c (i 3))], .tup [.agg [i 0, i 0, i 3], .c (.bool true)]⟩,
⟨71, 4, [.v (.c (.ptr 5 0)), .v (.c (i 4))], .tup [.agg [i 1, i 0, i 0], .c (.bool true)]⟩,
⟨71, 5, [.v (.c (.ptr 5 0)), .v (.c (i 5))], .tup [.agg [i 1, i 0, i 1], .c (.bool true)]⟩,
⟨71, 6, [.v (.c (.ptr 5 0)), .v (.c (i 6))], .tup [.agg [i 1, i 0, i 2], .c (.bool true)]⟩,
⟨71, 7, [.v (.c (.ptr 5 0)), .v (.c (i 7))], .tup [.agg [i 2, i 0, i 0], .c (.bool true)]⟩,
⟨71, 8, [.v (.c (.ptr 5 0)), .v (.c (i 8))], .tup [.agg [i 2, i 0, i 1], .c (.bool true)]⟩,
⟨71, 9, [.v (.c (.ptr 5 0)), .v (.c (i 9))], .tup [.agg [i 2, i 0, i 2], .c (.bool true)]⟩,
⟨71, 10, [.v (.c (.ptr 5 0)), .v (.c (i 10))], .tup [.agg [i 3, i 0, i 0], .c (.bool true)]⟩,
⟨71, 11, [.v (.c (.ptr 5 0)), .v (.c (i 11))], .tup [.agg [i 3, i 0, i 1], .c (.bool true)]⟩,
⟨71, 12, [.v (.c (.ptr 5 0)), .v (.c (i 12))], .tup [.agg [i 3, i 0, i 2], .c (.bool true)]⟩]⟩
theorem ModrefChain_3t_m1_ok : ModrefChain_3t_h1.tbl ModrefChain_3t_m1 = true := by kernel_rfl
noncomputable def ModrefChain_3t_h2 : HK := ModrefChain_3t_h1.memo ModrefChain_3t_m1 ModrefChain_3t_m1_ok
noncomputable def ModrefChain_3t_s1_b : Bls := ModrefChain_3t_l0
noncomputable def ModrefChain_3t_s1 : RE := ⟨56, [.v (.c (.ptr 5 0))], 40, .v (.c (.ptr 40 0)), ModrefChain_3t_l2, 191⟩
theorem ModrefChain_3t_s1_ok : ModrefChain_3t_h2.srp ModrefChain_3t_s1_b ModrefChain_3t_s1 = true := by kernel_rfl
noncomputable def ModrefChain_3t_h3 : HK := ModrefChain_3t_h2.srep ModrefChain_3t_s1_b ModrefChain_3t_s1 ModrefChain_3t_s1_ok
noncomputable def ModrefChain_3t_s2_b : Bls := ModrefChain_3t_l0
noncomputable def ModrefChain_3t_s2 : RE := ⟨79, [.v (.c (.ptr 5 0))], 506, .v (.c (o 531 0 13)), [(531, ⟨[i 0, i 0, i 0, i 0, i 0, i 1, i 0, i 0, i 2, i 0, i 0, i 3, i 1, i 0, i 0, i 1, i 0, i 1, i 1, i 0, i 2, i 2, i 0, i 0, i 2, i 0, i 1, i 2, i 0, i 2, i 3, i 0, i 0, i 3, i 0, i 1, i 3, i 0, i 2], 117, 3, none⟩)], 532⟩
theorem ModrefChain_3t_s2_ok : ModrefChain_3t_h3.srp ModrefChain_3t_s2_b ModrefChain_3t_s2 = true := by kernel_rfl
noncomputable def ModrefChain_3t_h4 : HK := ModrefChain_3t_h3.srep ModrefChain_3t_s2_b ModrefChain_3t_s2 ModrefChain_3t_s2_ok
noncomputable def ModrefChain_3t_s3_b : Bls := ModrefChain_3t_l0
noncomputable def ModrefChain_3t_s3 : RE := ⟨15, [.v (.c (.ptr 5 0)), .v (.c (.snil))], 40, .v (.c (.ptr 225 0)), ModrefChain_3t_l3, 2151⟩
theorem ModrefChain_3t_s3_ok : ModrefChain_3t_h4.rep ModrefChain_3t_s3_b ModrefChain_3t_s3 = true := by kernel_rfl
noncomputable def ModrefChain_3t_h5 : HK := ModrefChain_3t_h4.repl ModrefChain_3t_s3_b ModrefChain_3t_s3 ModrefChain_3t_s3_ok
theorem ModrefChain_3t_run : isBool true (runW ModrefChain_3t_h5.K 8 [ai (Int.ofNat 3), ab true] s0) = true := by kernel_rfl
theorem ModrefChain_3t_law {args : Array Value} (ha : VAs (fun _ => none) [ai (Int.ofNat 3), ab true] args.toList) (w : World) (hT : Tab w) :
    Calls Tryz.prog 8 args w fun e w' => Below w.heap.size w w' ∧ e = .returned (.bool true) := ModrefChain_3t_h5.law ModrefChain_3t_run ha w hT
private noncomputable abbrev ModrefChain_3f_l0 : Bls := [(3, ⟨[o 16 0 3, i 3, i 0, i 0, i 0], 51, 0, none⟩),
(5, ⟨[f 8 0 1, o 11 0 2, .snil, .snil, o 39 0 4, i 0], 44, 0, none⟩),
(7, ⟨[i 0, i 0, i 0, i 0], 36, 0, none⟩),
(8, ⟨[f 7 0 2], 37, 0, none⟩),
(9, ⟨[i 1, i 0], 36, 0, none⟩),
(11, ⟨[.snil, i 0, i 0, f 9 0 1, i 0, i 0], 63, 3, none⟩),
(13, ⟨[i 0, i 0, i 1, i 0], 36, 2, none⟩),
(14, ⟨[i 1], 3, 0, none⟩),
(16, ⟨[i 1, i 0, i 0, i 0, i 7, .snil, i 5, i 1, i 0, i 0, i 0, .snil, i 12, i 0, i 0, i 0, i 1, f 14 0 1], 53, 6, none⟩),
(18, ⟨[i 0], 3, 0, none⟩),
(20, ⟨[i 1, i 1, i 0, i 0, i 0, .snil, i 12, i 1, i 0, i 0, i 2, f 18 0 1], 53, 6, none⟩),
(21, ⟨[i 1, i 0, i 0, i 0], 36, 0, none⟩),
(22, ⟨[o 20 0 2, i 3, i 1, i 0, i 0], 51, 0, none⟩),
(26, ⟨[i 0], 3, 0, none⟩),
(28, ⟨[i 1, i 1, i 0, i 0, i 0, .snil, i 12, i 1, i 0, i 0, i 3, f 26 0 1], 53, 6, none⟩),
(29, ⟨[i 1, i 0, i 0, i 0], 36, 0, none⟩),
(30, ⟨[o 28 0 2, i 3, i 1, i 0, i 0], 51, 0, none⟩),
(35, ⟨[i 1, i 1, i 0, i 0, i 0, .snil, i 7, i 1, i 0, i 0, i 1, .snil], 53, 6, none⟩),
(36, ⟨[i 1, i 0, i 0, i 0], 36, 0, none⟩),
(37, ⟨[o 35 0 2, i 3, i 1, i 0, i 0], 51, 0, none⟩),
(39, ⟨[i 0, o 13 0 2, f 3 0 1, i 1, f 21 0 2, f 22 0 1, i 1, f 29 0 2, f 30 0 1, i 1, f 36 0 2, f 37 0 1], 48, 3, none⟩)]
private noncomputable abbrev ModrefChain_3f_l1 : Bls := [(3, ⟨[o 16 0 3, i 3, i 0, i 0, i 0], 51, 0, none⟩),
(5, ⟨[f 8 0 1, o 11 0 2, .snil, .snil, o 39 0 4, i 0], 44, 0, none⟩),
(22, ⟨[o 20 0 2, i 3, i 1, i 0, i 0], 51, 0, none⟩),
(30, ⟨[o 28 0 2, i 3, i 1, i 0, i 0], 51, 0, none⟩),
(37, ⟨[o 35 0 2, i 3, i 1, i 0, i 0], 51, 0, none⟩),
(39, ⟨[i 0, o 13 0 2, f 3 0 1, i 1, f 21 0 2, f 22 0 1, i 1, f 29 0 2, f 30 0 1, i 1, f 36 0 2, f 37 0 1], 48, 3, none⟩)]
private noncomputable abbrev ModrefChain_3f_l2 : Bls := [(40, ⟨[o 84 0 4, o 88 0 4, o 135 0 1, o 126 0 1, o 128 0 1, i 14], 173, 0, none⟩),
(46, ⟨[i 0, i 1], 3, 1, none⟩),
(58, ⟨[i 3, i 4], 3, 1, none⟩),
(70, ⟨[i 6, i 7], 3, 1, none⟩),
(82, ⟨[i 9, i 10], 3, 1, none⟩),
(84, ⟨[o 46 0 2, o 58 0 2, o 70 0 2, o 82 0 2], 25, 1, none⟩),
(88, ⟨[i 2, i 5, i 8, i 11], 3, 1, none⟩),
(126, ⟨[i 1], 3, 1, none⟩),
(128, ⟨[i 0], 3, 1, none⟩),
(133, ⟨[i 12, i 13], 3, 1, none⟩),
(135, ⟨[o 133 0 2], 25, 1, none⟩)]
private noncomputable abbrev ModrefChain_3f_l3 : Bls := [(40, ⟨[o 84 0 4, o 88 0 4, o 135 0 1, o 126 0 1, o 128 0 1, i 14], 173, 0, none⟩),
(46, ⟨[i 0, i 1], 3, 1, none⟩),
(58, ⟨[i 3, i 4], 3, 1, none⟩),
(70, ⟨[i 6, i 7], 3, 1, none⟩),
(82, ⟨[i 9, i 10], 3, 1, none⟩),
(84, ⟨[o 46 0 2, o 58 0 2, o 70 0 2, o 82 0 2], 25, 1, none⟩),
(88, ⟨[i 2, i 5, i 8, i 11], 3, 1, none⟩),
(126, ⟨[i 1], 3, 1, none⟩),
(128, ⟨[i 0], 3, 1, none⟩),
(133, ⟨[i 12, i 13], 3, 1, none⟩),
(135, ⟨[o 133 0 2], 25, 1, none⟩),
(191, ⟨[o 219 0 14], 175, 0, none⟩),
(219, ⟨[i 0, i 1, i 2, i 3, i 4, i 5, i 6, i 7, i 8, i 9, i 10, i 11, i 12, i 13], 3, 1, none⟩),
(220, ⟨[.snil, .snil, .snil, .snil, .snil, .snil, .snil, .snil, .snil, .snil, .snil, .snil, .snil, .snil], 179, 0, none⟩),
(221, ⟨[o 353 0 1], 100, 0, none⟩),
(222, ⟨[], 0, 0, some (.map [(0, .agg [i 2, i 1], .c (.bool true)), (1, .agg [i 5, i 2], .c (.bool true)), (2, .agg [i 8, i 3], .c (.bool true))] 3)⟩),
(223, ⟨[], 0, 0, some (.map [] 4)⟩),
(224, ⟨[.snil, o 1476 0 0, .map 223, i 4], 178, 0, none⟩),
(225, ⟨[.ptr 5 0, .ptr 40 0, .ptr 191 0, o 345 0 14, o 348 0 14, o 351 0 14, f 220 0 14, .ptr 221 0, .map 222, .ptr 224 0], 106, 0, none⟩),
e 226 100,
e 229 100,
e 232 100,
(235, ⟨[o 589 0 1], 100, 0, none⟩),
(241, ⟨[o 595 0 1], 100, 0, none⟩),
e 244 100,
e 247 100,
e 250 100,
(253, ⟨[o 597 0 1], 100, 0, none⟩),
(259, ⟨[o 1026 0 1], 100, 0, none⟩),
e 262 100,
e 265 100,
e 268 100,
e 271 100,
e 274 100,
e 277 100,
(280, ⟨[o 1028 0 1], 100, 0, none⟩),
(286, ⟨[o 1472 0 1], 100, 0, none⟩),
e 289 100,
e 292 100,
e 295 100,
e 298 100,
e 301 100,
e 304 100,
(307, ⟨[o 1474 0 1], 100, 0, none⟩),
e 313 100,
e 316 100,
e 319 100,
e 322 100,
e 325 100,
e 328 100,
e 331 100,
e 334 100,
e 337 100,
e 340 100,
e 343 100,
(345, ⟨[.ptr 226 0, .ptr 235 0, .ptr 244 0, .ptr 253 0, .ptr 262 0, .ptr 271 0, .ptr 280 0, .ptr 289 0, .ptr 298 0, .ptr 307 0, .ptr 316 0, .ptr 325 0, .ptr 334 0, .ptr 343 0], 97, 1, none⟩),
e 346 100,
(348, ⟨[.ptr 229 0, .ptr 2126 0, .ptr 247 0, .ptr 2134 0, .ptr 265 0, .ptr 274 0, .ptr 2142 0, .ptr 292 0, .ptr 301 0, .ptr 2150 0, .ptr 319 0, .ptr 328 0, .ptr 337 0, .ptr 346 0], 97, 1, none⟩),
e 349 100,
(351, ⟨[.ptr 232 0, .ptr 241 0, .ptr 250 0, .ptr 259 0, .ptr 268 0, .ptr 277 0, .ptr 286 0, .ptr 295 0, .ptr 304 0, .ptr 313 0, .ptr 322 0, .ptr 331 0, .ptr 340 0, .ptr 349 0], 97, 1, none⟩),
(353, ⟨[.int .u64 (.ofNat 15)], 192, 1, none⟩),
(589, ⟨[.int .u64 (.ofNat 1)], 192, 1, none⟩),
(595, ⟨[.int .u64 (.ofNat 8)], 192, 1, none⟩),
(597, ⟨[.int .u64 (.ofNat 1)], 192, 1, none⟩),
(1026, ⟨[.int .u64 (.ofNat 64)], 192, 1, none⟩),
(1028, ⟨[.int .u64 (.ofNat 1)], 192, 1, none⟩),
(1472, ⟨[.int .u64 (.ofNat 512)], 192, 1, none⟩),
(1474, ⟨[.int .u64 (.ofNat 1)], 192, 1, none⟩),
(1476, ⟨[i 0, i 0, i 0, i 0], 3, 1, none⟩),
(2125, ⟨[.int .u64 (.ofNat 1)], 192, 1, none⟩),
(2126, ⟨[o 2125 0 1], 100, 0, none⟩),
(2133, ⟨[.int .u64 (.ofNat 1)], 192, 1, none⟩),
(2134, ⟨[o 2133 0 1], 100, 0, none⟩),
(2141, ⟨[.int .u64 (.ofNat 1)], 192, 1, none⟩),
(2142, ⟨[o 2141 0 1], 100, 0, none⟩),
(2149, ⟨[.int .u64 (.ofNat 1)], 192, 1, none⟩),
(2150, ⟨[o 2149 0 1], 100, 0, none⟩)]
noncomputable def ModrefChain_3f_m0 : MM := ⟨[100], ModrefChain_3f_l0, 40, [⟨100, 0, [.v (.c (.ptr 5 0))], .v (.c (.nili))⟩]⟩
theorem ModrefChain_3f_m0_ok : H0.tbl ModrefChain_3f_m0 = true := by kernel_rfl
noncomputable def ModrefChain_3f_h1 : HK := H0.memo ModrefChain_3f_m0 ModrefChain_3f_m0_ok
noncomputable def ModrefChain_3f_m1 : MM := ⟨[71], ModrefChain_3f_l1, 117, [⟨71, 0, [.v (.c (.ptr 5 0)), .v (.c (i 0))], .tup [.agg [i 0, i 0, i 0], .c (.bool true)]⟩,
⟨71, 1, [.v (.c (.ptr 5 0)), .v (.c (i 1))], .tup [.agg [i 0, i 0, i 1], .c (.bool true)]⟩,
⟨71, 2, [.v (.c (.ptr 5 0)), .v (.c (i 2))], .tup [.agg [i 0, i 0, i 2], .c (.bool true)]⟩,
⟨71, 3, [.v (.c (.ptr 5 0)), .v (.c (i 3))], .tup [.agg [i 0, i 0, i 3], .c (.bool true)]⟩,
⟨71, 4, [.v (.c (.ptr 5 0)), .v (.c (i 4))], .tup [.agg [i 1, i 0, i 0], .c (.bool true)]⟩,
⟨71, 5, [.v (.c (.ptr 5 0)), .v (.c (i 5))], .tup [.agg [i 1, i 0, i 1], .c (.bool true)]⟩,
⟨71, 6, [.v (.c (.ptr 5 0)), .v (.c (i 6))], .tup [.agg [i 1, i 0, i 2], .c (.bool true)]⟩,
⟨71, 7, [.v (.c (.ptr 5 0)), .v (.c (i 7))], .tup [.agg [i 2, i 0, i 0], .c (.bool true)]⟩,
⟨71, 8, [.v (.c (.ptr 5 0)), .v (.c (i 8))], .tup [.agg [i 2, i 0, i 1], .c (.bool true)]⟩,
⟨71, 9, [.v (.c (.ptr 5 0)), .v (.c (i 9))], .tup [.agg [i 2, i 0, i 2], .c (.bool true)]⟩,
⟨71, 10, [.v (.c (.ptr 5 0)), .v (.c (i 10))], .tup [.agg [i 3, i 0, i 0], .c (.bool true)]⟩,
⟨71, 11, [.v (.c (.ptr 5 0)), .v (.c (i 11))], .tup [.agg [i 3, i 0, i 1], .c (.bool true)]⟩,
⟨71, 12, [.v (.c (.ptr 5 0)), .v (.c (i 12))], .tup [.agg [i 3, i 0, i 2], .c (.bool true)]⟩]⟩
theorem ModrefChain_3f_m1_ok : ModrefChain_3f_h1.tbl ModrefChain_3f_m1 = true := by kernel_rfl
noncomputable def ModrefChain_3f_h2 : HK := ModrefChain_3f_h1.memo ModrefChain_3f_m1 ModrefChain_3f_m1_ok
noncomputable def ModrefChain_3f_s1_b : Bls := ModrefChain_3f_l0
noncomputable def ModrefChain_3f_s1 : RE := ⟨56, [.v (.c (.ptr 5 0))], 40, .v (.c (.ptr 40 0)), ModrefChain_3f_l2, 191⟩
theorem ModrefChain_3f_s1_ok : ModrefChain_3f_h2.srp ModrefChain_3f_s1_b ModrefChain_3f_s1 = true := by kernel_rfl
noncomputable def ModrefChain_3f_h3 : HK := ModrefChain_3f_h2.srep ModrefChain_3f_s1_b ModrefChain_3f_s1 ModrefChain_3f_s1_ok
noncomputable def ModrefChain_3f_s2_b : Bls := ModrefChain_3f_l0
noncomputable def ModrefChain_3f_s2 : RE := ⟨79, [.v (.c (.ptr 5 0))], 506, .v (.c (o 531 0 13)), [(531, ⟨[i 0, i 0, i 0, i 0, i 0, i 1, i 0, i 0, i 2, i 0, i 0, i 3, i 1, i 0, i 0, i 1, i 0, i 1, i 1, i 0, i 2, i 2, i 0, i 0, i 2, i 0, i 1, i 2, i 0, i 2, i 3, i 0, i 0, i 3, i 0, i 1, i 3, i 0, i 2], 117, 3, none⟩)], 532⟩
theorem ModrefChain_3f_s2_ok : ModrefChain_3f_h3.srp ModrefChain_3f_s2_b ModrefChain_3f_s2 = true := by kernel_rfl
noncomputable def ModrefChain_3f_h4 : HK := ModrefChain_3f_h3.srep ModrefChain_3f_s2_b ModrefChain_3f_s2 ModrefChain_3f_s2_ok
noncomputable def ModrefChain_3f_s3_b : Bls := ModrefChain_3f_l0
noncomputable def ModrefChain_3f_s3 : RE := ⟨15, [.v (.c (.ptr 5 0)), .v (.c (.snil))], 40, .v (.c (.ptr 225 0)), ModrefChain_3f_l3, 2151⟩
theorem ModrefChain_3f_s3_ok : ModrefChain_3f_h4.rep ModrefChain_3f_s3_b ModrefChain_3f_s3 = true := by kernel_rfl
noncomputable def ModrefChain_3f_h5 : HK := ModrefChain_3f_h4.repl ModrefChain_3f_s3_b ModrefChain_3f_s3 ModrefChain_3f_s3_ok
theorem ModrefChain_3f_run : isBool true (runW ModrefChain_3f_h5.K 8 [ai (Int.ofNat 3), ab false] s0) = true := by kernel_rfl
theorem ModrefChain_3f_law {args : Array Value} (ha : VAs (fun _ => none) [ai (Int.ofNat 3), ab false] args.toList) (w : World) (hT : Tab w) :
    Calls Tryz.prog 8 args w fun e w' => Below w.heap.size w w' ∧ e = .returned (.bool true) := ModrefChain_3f_h5.law ModrefChain_3f_run ha w hT
end Go.Proofs.YtjjfahgdmaikpaaGreatDoor
