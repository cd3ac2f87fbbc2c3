/- Tables of calls, and a run that uses them. -/
import Derived.Test.YtjjfahgdmaikpaaGreatDoorLn19
namespace Go.Proofs.YtjjfahgdmaikpaaGreatDoor
open Go Go.RowKit Ev
set_option maxRecDepth 100000
set_option linter.unusedVariables false
private noncomputable abbrev i (n : Nat) : CV := .int .i64 (.ofNat n)
private noncomputable abbrev o (b a n : Nat) : CV := .slice b a n (.opn 0)
private noncomputable abbrev f (b a n : Nat) : CV := .slice b a n (.fix n)
private noncomputable abbrev e (k t : Nat) : Nat × BK := (k, ⟨[.snil], t, 0, none⟩)
private noncomputable abbrev CallsChain_8f_l0 : Bls := [(0, ⟨[.snil, i 0, i 0], 63, 0, none⟩),
(1, ⟨[i 0, i 0], 36, 0, none⟩),
(3, ⟨[o 7 0 2, i 3, i 0, i 0, i 0], 51, 0, none⟩),
(5, ⟨[.snil, f 0 0 1, .snil, .snil, o 61 0 9, i 0], 44, 0, none⟩),
(7, ⟨[i 1, i 0, i 0, i 0, i 7, .snil, i 12, i 0, i 0, i 0, i 1, .snil], 53, 6, none⟩),
(8, ⟨[i 0, i 0], 36, 0, none⟩),
(10, ⟨[o 14 0 2, i 3, i 0, i 0, i 0], 51, 0, none⟩),
(14, ⟨[i 1, i 0, i 0, i 0, i 0, .snil, i 12, i 0, i 0, i 0, i 2, .snil], 53, 6, none⟩),
(15, ⟨[i 0, i 0], 36, 0, none⟩),
(17, ⟨[o 21 0 2, i 3, i 0, i 0, i 0], 51, 0, none⟩),
(21, ⟨[i 1, i 0, i 0, i 0, i 0, .snil, i 12, i 0, i 0, i 0, i 3, .snil], 53, 6, none⟩),
(22, ⟨[i 0, i 0], 36, 0, none⟩),
(24, ⟨[o 28 0 2, i 3, i 0, i 0, i 0], 51, 0, none⟩),
(28, ⟨[i 1, i 0, i 0, i 0, i 0, .snil, i 12, i 0, i 0, i 0, i 4, .snil], 53, 6, none⟩),
(29, ⟨[i 0, i 0], 36, 0, none⟩),
(31, ⟨[o 35 0 2, i 3, i 0, i 0, i 0], 51, 0, none⟩),
(35, ⟨[i 1, i 0, i 0, i 0, i 0, .snil, i 12, i 0, i 0, i 0, i 5, .snil], 53, 6, none⟩),
(36, ⟨[i 0, i 0], 36, 0, none⟩),
(38, ⟨[o 42 0 2, i 3, i 0, i 0, i 0], 51, 0, none⟩),
(42, ⟨[i 1, i 0, i 0, i 0, i 0, .snil, i 12, i 0, i 0, i 0, i 6, .snil], 53, 6, none⟩),
(43, ⟨[i 0, i 0], 36, 0, none⟩),
(45, ⟨[o 49 0 2, i 3, i 0, i 0, i 0], 51, 0, none⟩),
(49, ⟨[i 1, i 0, i 0, i 0, i 0, .snil, i 12, i 0, i 0, i 0, i 7, .snil], 53, 6, none⟩),
(50, ⟨[i 0, i 0], 36, 0, none⟩),
(52, ⟨[o 56 0 2, i 3, i 0, i 0, i 0], 51, 0, none⟩),
(56, ⟨[i 1, i 0, i 0, i 0, i 0, .snil, i 12, i 0, i 0, i 0, i 8, .snil], 53, 6, none⟩),
(57, ⟨[i 0, i 0], 36, 0, none⟩),
(58, ⟨[i 1, i 0, i 0, i 0, i 0, .snil], 53, 0, none⟩),
(59, ⟨[f 58 0 1, i 3, i 0, i 0, i 0], 51, 0, none⟩),
(61, ⟨[i 0, f 1 0 1, f 3 0 1, i 0, f 8 0 1, f 10 0 1, i 0, f 15 0 1, f 17 0 1, i 0, f 22 0 1, f 24 0 1, i 0, f 29 0 1, f 31 0 1, i 0, f 36 0 1, f 38 0 1, i 0, f 43 0 1, f 45 0 1, i 0, f 50 0 1, f 52 0 1, i 0, f 57 0 1, f 59 0 1], 48, 3, none⟩)]
private noncomputable abbrev CallsChain_8f_l1 : Bls := [(3, ⟨[o 7 0 2, i 3, i 0, i 0, i 0], 51, 0, none⟩),
(5, ⟨[.snil, f 0 0 1, .snil, .snil, o 61 0 9, i 0], 44, 0, none⟩),
(10, ⟨[o 14 0 2, i 3, i 0, i 0, i 0], 51, 0, none⟩),
(17, ⟨[o 21 0 2, i 3, i 0, i 0, i 0], 51, 0, none⟩),
(24, ⟨[o 28 0 2, i 3, i 0, i 0, i 0], 51, 0, none⟩),
(31, ⟨[o 35 0 2, i 3, i 0, i 0, i 0], 51, 0, none⟩),
(38, ⟨[o 42 0 2, i 3, i 0, i 0, i 0], 51, 0, none⟩),
(45, ⟨[o 49 0 2, i 3, i 0, i 0, i 0], 51, 0, none⟩),
(52, ⟨[o 56 0 2, i 3, i 0, i 0, i 0], 51, 0, none⟩),
(59, ⟨[f 58 0 1, i 3, i 0, i 0, i 0], 51, 0, none⟩),
(61, ⟨[i 0, f 1 0 1, f 3 0 1, i 0, f 8 0 1, f 10 0 1, i 0, f 15 0 1, f 17 0 1, i 0, f 22 0 1, f 24 0 1, i 0, f 29 0 1, f 31 0 1, i 0, f 36 0 1, f 38 0 1, i 0, f 43 0 1, f 45 0 1, i 0, f 50 0 1, f 52 0 1, i 0, f 57 0 1, f 59 0 1], 48, 3, none⟩)]
private noncomputable abbrev CallsChain_8f_l2 : Bls := [(62, ⟨[o 148 0 9, o 152 0 9, .snil, .snil, .snil, i 18], 173, 0, none⟩),
(66, ⟨[i 0], 3, 1, none⟩),
(76, ⟨[i 2], 3, 1, none⟩),
(86, ⟨[i 4], 3, 1, none⟩),
(96, ⟨[i 6], 3, 1, none⟩),
(106, ⟨[i 8], 3, 1, none⟩),
(116, ⟨[i 10], 3, 1, none⟩),
(126, ⟨[i 12], 3, 1, none⟩),
(136, ⟨[i 14], 3, 1, none⟩),
(146, ⟨[i 16], 3, 1, none⟩),
(148, ⟨[o 66 0 1, o 76 0 1, o 86 0 1, o 96 0 1, o 106 0 1, o 116 0 1, o 126 0 1, o 136 0 1, o 146 0 1], 25, 1, none⟩),
(152, ⟨[i 1, i 3, i 5, i 7, i 9, i 11, i 13, i 15, i 17], 3, 1, none⟩)]
private noncomputable abbrev CallsChain_8f_l3 : Bls := [(867, ⟨[i 0, i 0, i 0, i 0, i 0, i 1, i 0, i 0, i 2, i 1, i 0, i 0, i 1, i 0, i 1, i 1, i 0, i 2, i 2, i 0, i 0, i 2, i 0, i 1, i 2, i 0, i 2, i 3, i 0, i 0, i 3, i 0, i 1, i 3, i 0, i 2, i 4, i 0, i 0, i 4, i 0, i 1, i 4, i 0, i 2, i 5, i 0, i 0, i 5, i 0, i 1, i 5, i 0, i 2, i 6, i 0, i 0, i 6, i 0, i 1, i 6, i 0, i 2, i 7, i 0, i 0, i 7, i 0, i 1, i 7, i 0, i 2, i 8, i 0, i 0, i 8, i 0, i 1], 117, 3, none⟩)]
private noncomputable abbrev CallsChain_8f_l4 : Bls := [(62, ⟨[o 148 0 9, o 152 0 9, .snil, .snil, .snil, i 18], 173, 0, none⟩),
(66, ⟨[i 0], 3, 1, none⟩),
(76, ⟨[i 2], 3, 1, none⟩),
(86, ⟨[i 4], 3, 1, none⟩),
(96, ⟨[i 6], 3, 1, none⟩),
(106, ⟨[i 8], 3, 1, none⟩),
(116, ⟨[i 10], 3, 1, none⟩),
(126, ⟨[i 12], 3, 1, none⟩),
(136, ⟨[i 14], 3, 1, none⟩),
(146, ⟨[i 16], 3, 1, none⟩),
(148, ⟨[o 66 0 1, o 76 0 1, o 86 0 1, o 96 0 1, o 106 0 1, o 116 0 1, o 126 0 1, o 136 0 1, o 146 0 1], 25, 1, none⟩),
(152, ⟨[i 1, i 3, i 5, i 7, i 9, i 11, i 13, i 15, i 17], 3, 1, none⟩),
(335, ⟨[o 371 0 18], 175, 0, none⟩),
(371, ⟨[i 0, i 1, i 2, i 3, i 4, i 5, i 6, i 7, i 8, i 9, i 10, i 11, i 12, i 13, i 14, i 15, i 16, i 17], 3, 1, none⟩),
(372, ⟨[.snil, .snil, .snil, .snil, .snil, .snil, .snil, .snil, .snil, .snil, .snil, .snil, .snil, .snil, .snil, .snil, .snil, .snil], 179, 0, none⟩),
(373, ⟨[o 541 0 1], 100, 0, none⟩),
(374, ⟨[], 0, 0, some (.map [(0, .agg [i 1, i 1], .c (.bool true)), (1, .agg [i 4, i 2], .c (.bool true)), (2, .agg [i 7, i 3], .c (.bool true)), (3, .agg [i 10, i 4], .c (.bool true)), (4, .agg [i 13, i 5], .c (.bool true)), (5, .agg [i 16, i 6], .c (.bool true)), (6, .agg [i 19, i 7], .c (.bool true)), (7, .agg [i 22, i 8], .c (.bool true))] 8)⟩),
(375, ⟨[], 0, 0, some (.map [] 0)⟩),
(376, ⟨[.snil, .snil, .map 375, i 0], 178, 0, none⟩),
(377, ⟨[.ptr 5 0, .ptr 62 0, .ptr 335 0, o 533 0 18, o 536 0 18, o 539 0 18, f 372 0 18, .ptr 373 0, .map 374, .ptr 376 0], 106, 0, none⟩),
e 378 100,
e 381 100,
e 384 100,
e 387 100,
e 390 100,
e 393 100,
e 396 100,
e 399 100,
e 402 100,
e 405 100,
e 408 100,
e 411 100,
e 414 100,
e 417 100,
e 420 100,
e 423 100,
e 426 100,
e 429 100,
e 432 100,
e 435 100,
e 438 100,
e 441 100,
e 444 100,
e 447 100,
e 450 100,
e 453 100,
e 456 100,
e 459 100,
e 462 100,
e 465 100,
e 468 100,
e 471 100,
e 474 100,
e 477 100,
e 480 100,
e 483 100,
e 486 100,
e 489 100,
e 492 100,
e 495 100,
e 498 100,
e 501 100,
e 504 100,
e 507 100,
e 510 100,
e 513 100,
e 516 100,
e 519 100,
e 522 100,
e 525 100,
e 528 100,
e 531 100,
(533, ⟨[.ptr 378 0, .ptr 387 0, .ptr 396 0, .ptr 405 0, .ptr 414 0, .ptr 423 0, .ptr 432 0, .ptr 441 0, .ptr 450 0, .ptr 459 0, .ptr 468 0, .ptr 477 0, .ptr 486 0, .ptr 495 0, .ptr 504 0, .ptr 513 0, .ptr 522 0, .ptr 531 0], 97, 1, none⟩),
e 534 100,
(536, ⟨[.ptr 381 0, .ptr 390 0, .ptr 399 0, .ptr 408 0, .ptr 417 0, .ptr 426 0, .ptr 435 0, .ptr 444 0, .ptr 453 0, .ptr 462 0, .ptr 471 0, .ptr 480 0, .ptr 489 0, .ptr 498 0, .ptr 507 0, .ptr 516 0, .ptr 525 0, .ptr 534 0], 97, 1, none⟩),
e 537 100,
(539, ⟨[.ptr 384 0, .ptr 393 0, .ptr 402 0, .ptr 411 0, .ptr 420 0, .ptr 429 0, .ptr 438 0, .ptr 447 0, .ptr 456 0, .ptr 465 0, .ptr 474 0, .ptr 483 0, .ptr 492 0, .ptr 501 0, .ptr 510 0, .ptr 519 0, .ptr 528 0, .ptr 537 0], 97, 1, none⟩),
(541, ⟨[.int .u64 (.ofNat 511)], 192, 1, none⟩)]
noncomputable def CallsChain_8f_m0 : MM := ⟨[100], CallsChain_8f_l0, 62, [⟨100, 0, [.v (.c (.ptr 5 0))], .v (.c (.nili))⟩]⟩
theorem CallsChain_8f_m0_ok : H0.tbl CallsChain_8f_m0 = true := by kernel_rfl
noncomputable def CallsChain_8f_h1 : HK := H0.memo CallsChain_8f_m0 CallsChain_8f_m0_ok
noncomputable def CallsChain_8f_m1 : MM := ⟨[71], CallsChain_8f_l1, 207, [⟨71, 0, [.v (.c (.ptr 5 0)), .v (.c (i 0))], .tup [.agg [i 0, i 0, i 0], .c (.bool true)]⟩,
⟨71, 1, [.v (.c (.ptr 5 0)), .v (.c (i 1))], .tup [.agg [i 0, i 0, i 1], .c (.bool true)]⟩,
⟨71, 2, [.v (.c (.ptr 5 0)), .v (.c (i 2))], .tup [.agg [i 0, i 0, i 2], .c (.bool true)]⟩,
⟨71, 3, [.v (.c (.ptr 5 0)), .v (.c (i 3))], .tup [.agg [i 1, i 0, i 0], .c (.bool true)]⟩,
⟨71, 4, [.v (.c (.ptr 5 0)), .v (.c (i 4))], .tup [.agg [i 1, i 0, i 1], .c (.bool true)]⟩,
⟨71, 5, [.v (.c (.ptr 5 0)), .v (.c (i 5))], .tup [.agg [i 1, i 0, i 2], .c (.bool true)]⟩,
⟨71, 6, [.v (.c (.ptr 5 0)), .v (.c (i 6))], .tup [.agg [i 2, i 0, i 0], .c (.bool true)]⟩,
⟨71, 7, [.v (.c (.ptr 5 0)), .v (.c (i 7))], .tup [.agg [i 2, i 0, i 1], .c (.bool true)]⟩,
⟨71, 8, [.v (.c (.ptr 5 0)), .v (.c (i 8))], .tup [.agg [i 2, i 0, i 2], .c (.bool true)]⟩,
⟨71, 9, [.v (.c (.ptr 5 0)), .v (.c (i 9))], .tup [.agg [i 3, i 0, i 0], .c (.bool true)]⟩,
⟨71, 10, [.v (.c (.ptr 5 0)), .v (.c (i 10))], .tup [.agg [i 3, i 0, i 1], .c (.bool true)]⟩,
⟨71, 11, [.v (.c (.ptr 5 0)), .v (.c (i 11))], .tup [.agg [i 3, i 0, i 2], .c (.bool true)]⟩,
⟨71, 12, [.v (.c (.ptr 5 0)), .v (.c (i 12))], .tup [.agg [i 4, i 0, i 0], .c (.bool true)]⟩,
⟨71, 13, [.v (.c (.ptr 5 0)), .v (.c (i 13))], .tup [.agg [i 4, i 0, i 1], .c (.bool true)]⟩,
⟨71, 14, [.v (.c (.ptr 5 0)), .v (.c (i 14))], .tup [.agg [i 4, i 0, i 2], .c (.bool true)]⟩,
⟨71, 15, [.v (.c (.ptr 5 0)), .v (.c (i 15))], .tup [.agg [i 5, i 0, i 0], .c (.bool true)]⟩,
⟨71, 16, [.v (.c (.ptr 5 0)), .v (.c (i 16))], .tup [.agg [i 5, i 0, i 1], .c (.bool true)]⟩,
⟨71, 17, [.v (.c (.ptr 5 0)), .v (.c (i 17))], .tup [.agg [i 5, i 0, i 2], .c (.bool true)]⟩,
⟨71, 18, [.v (.c (.ptr 5 0)), .v (.c (i 18))], .tup [.agg [i 6, i 0, i 0], .c (.bool true)]⟩,
⟨71, 19, [.v (.c (.ptr 5 0)), .v (.c (i 19))], .tup [.agg [i 6, i 0, i 1], .c (.bool true)]⟩,
⟨71, 20, [.v (.c (.ptr 5 0)), .v (.c (i 20))], .tup [.agg [i 6, i 0, i 2], .c (.bool true)]⟩,
⟨71, 21, [.v (.c (.ptr 5 0)), .v (.c (i 21))], .tup [.agg [i 7, i 0, i 0], .c (.bool true)]⟩,
⟨71, 22, [.v (.c (.ptr 5 0)), .v (.c (i 22))], .tup [.agg [i 7, i 0, i 1], .c (.bool true)]⟩,
⟨71, 23, [.v (.c (.ptr 5 0)), .v (.c (i 23))], .tup [.agg [i 7, i 0, i 2], .c (.bool true)]⟩,
⟨71, 24, [.v (.c (.ptr 5 0)), .v (.c (i 24))], .tup [.agg [i 8, i 0, i 0], .c (.bool true)]⟩,
⟨71, 25, [.v (.c (.ptr 5 0)), .v (.c (i 25))], .tup [.agg [i 8, i 0, i 1], .c (.bool true)]⟩]⟩
theorem CallsChain_8f_m1_ok : CallsChain_8f_h1.tbl CallsChain_8f_m1 = true := by kernel_rfl
noncomputable def CallsChain_8f_h2 : HK := CallsChain_8f_h1.memo CallsChain_8f_m1 CallsChain_8f_m1_ok
noncomputable def CallsChain_8f_s1_b : Bls := CallsChain_8f_l0
noncomputable def CallsChain_8f_s1 : RE := ⟨56, [.v (.c (.ptr 5 0))], 62, .v (.c (.ptr 62 0)), CallsChain_8f_l2, 335⟩
theorem CallsChain_8f_s1_ok : CallsChain_8f_h2.srp CallsChain_8f_s1_b CallsChain_8f_s1 = true := by kernel_rfl
noncomputable def CallsChain_8f_h3 : HK := CallsChain_8f_h2.srep CallsChain_8f_s1_b CallsChain_8f_s1 CallsChain_8f_s1_ok
noncomputable def CallsChain_8f_s2_b : Bls := CallsChain_8f_l0
noncomputable def CallsChain_8f_s2 : RE := ⟨79, [.v (.c (.ptr 5 0))], 816, .v (.c (o 867 0 26)), CallsChain_8f_l3, 868⟩
theorem CallsChain_8f_s2_ok : CallsChain_8f_h3.srp CallsChain_8f_s2_b CallsChain_8f_s2 = true := by kernel_rfl
noncomputable def CallsChain_8f_h4 : HK := CallsChain_8f_h3.srep CallsChain_8f_s2_b CallsChain_8f_s2 CallsChain_8f_s2_ok
noncomputable def CallsChain_8f_s3_b : Bls := CallsChain_8f_l0
noncomputable def CallsChain_8f_s3 : RE := ⟨15, [.v (.c (.ptr 5 0)), .v (.c (.snil))], 62, .v (.c (.ptr 377 0)), CallsChain_8f_l4, 7802⟩
theorem CallsChain_8f_s3_ok : CallsChain_8f_h4.rep CallsChain_8f_s3_b CallsChain_8f_s3 = true := by kernel_rfl
noncomputable def CallsChain_8f_h5 : HK := CallsChain_8f_h4.repl CallsChain_8f_s3_b CallsChain_8f_s3 CallsChain_8f_s3_ok
theorem CallsChain_8f_run : isBool true (runW CallsChain_8f_h5.K 10 [ai (Int.ofNat 8), ab false] s0) = true := by kernel_rfl
theorem CallsChain_8f_law {args : Array Value} (ha : VAs (fun _ => none) [ai (Int.ofNat 8), ab false] args.toList) (w : World) (hT : Tab w) :
    Calls Tryz.prog 10 args w fun e w' => Below w.heap.size w w' ∧ e = .returned (.bool true) := CallsChain_8f_h5.law CallsChain_8f_run ha w hT
end Go.Proofs.YtjjfahgdmaikpaaGreatDoor
