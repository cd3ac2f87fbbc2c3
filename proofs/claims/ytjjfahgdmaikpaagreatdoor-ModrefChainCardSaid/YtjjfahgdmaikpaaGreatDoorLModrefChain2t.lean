/- Tables of calls, and a run that uses them. -/
import Derived.Test.YtjjfahgdmaikpaaGreatDoorLn20
namespace Go.Proofs.YtjjfahgdmaikpaaGreatDoor
open Go Go.RowKit Ev
set_option maxRecDepth 100000
set_option linter.unusedVariables false
private noncomputable abbrev i (n : Nat) : CV := .int .i64 (.ofNat n)
private noncomputable abbrev o (b a n : Nat) : CV := .slice b a n (.opn 0)
private noncomputable abbrev f (b a n : Nat) : CV := .slice b a n (.fix n)
private noncomputable abbrev e (k t : Nat) : Nat × BK := (k, ⟨[.snil], t, 0, none⟩)
private noncomputable abbrev ModrefChain_2t_l0 : Bls := [(3, ⟨[o 16 0 3, i 3, i 0, i 0, i 0], 51, 0, none⟩),
(5, ⟨[f 8 0 1, o 11 0 2, .snil, .snil, o 31 0 3, i 0], 44, 0, none⟩),
(7, ⟨[i 0, i 0, i 0, i 0], 36, 0, none⟩),
(8, ⟨[f 7 0 2], 37, 0, none⟩),
(9, ⟨[i 1, i 0], 36, 0, none⟩),
(11, ⟨[.snil, i 0, i 0, f 9 0 1, i 0, i 0], 63, 3, none⟩),
(13, ⟨[i 0, i 0, i 1, i 0], 36, 2, none⟩),
(14, ⟨[i 1], 3, 0, none⟩),
(16, ⟨[i 1, i 0, i 0, i 0, i 7, .snil, i 5, i 1, i 0, i 0, i 0, .snil, i 12, i 0, i 0, i 0, i 1, f 14 0 1], 53, 6, none⟩),
(18, ⟨[i 0], 3, 0, none⟩),
(20, ⟨[i 1, i 1, i 0, i 0, i 0, .snil, i 12, i 1, i 0, i 0, i 2, f 18 0 1], 53, 6, none⟩),
(21, ⟨[i 1, i 0, i 0, i 0], 36, 0, none⟩),
(22, ⟨[o 20 0 2, i 3, i 1, i 0, i 0], 51, 0, none⟩),
(27, ⟨[i 1, i 1, i 0, i 0, i 0, .snil, i 8, i 0, i 0, i 1, i 1, .snil], 53, 6, none⟩),
(28, ⟨[i 1, i 0, i 0, i 0], 36, 0, none⟩),
(29, ⟨[o 27 0 2, i 3, i 1, i 0, i 0], 51, 0, none⟩),
(31, ⟨[i 0, o 13 0 2, f 3 0 1, i 1, f 21 0 2, f 22 0 1, i 1, f 28 0 2, f 29 0 1], 48, 3, none⟩)]
private noncomputable abbrev ModrefChain_2t_l1 : Bls := [(32, ⟨[o 64 0 3, o 68 0 3, o 109 0 1, o 100 0 1, o 102 0 1, i 11], 173, 0, none⟩),
(38, ⟨[i 0, i 1], 3, 1, none⟩),
(50, ⟨[i 3, i 4], 3, 1, none⟩),
(62, ⟨[i 6, i 7], 3, 1, none⟩),
(64, ⟨[o 38 0 2, o 50 0 2, o 62 0 2], 25, 1, none⟩),
(68, ⟨[i 2, i 5, i 8], 3, 1, none⟩),
(100, ⟨[i 1], 3, 1, none⟩),
(102, ⟨[i 0], 3, 1, none⟩),
(107, ⟨[i 9, i 10], 3, 1, none⟩),
(109, ⟨[o 107 0 2], 25, 1, none⟩),
(150, ⟨[o 172 0 11], 175, 0, none⟩),
(172, ⟨[i 0, i 1, i 2, i 3, i 4, i 5, i 6, i 7, i 8, i 9, i 10], 3, 1, none⟩),
(173, ⟨[.snil, .snil, .snil, .snil, .snil, .snil, .snil, .snil, .snil, .snil, .snil], 179, 0, none⟩),
(174, ⟨[o 279 0 1], 100, 0, none⟩),
(175, ⟨[], 0, 0, some (.map [(0, .agg [i 2, i 1], .c (.bool true)), (1, .agg [i 5, i 2], .c (.bool true))] 2)⟩),
(176, ⟨[], 0, 0, some (.map [] 3)⟩),
(177, ⟨[.snil, o 833 0 0, .map 176, i 3], 178, 0, none⟩),
(178, ⟨[.ptr 5 0, .ptr 32 0, .ptr 150 0, o 271 0 11, o 274 0 11, o 277 0 11, f 173 0 11, .ptr 174 0, .map 175, .ptr 177 0], 106, 0, none⟩),
e 179 100,
e 182 100,
e 185 100,
(188, ⟨[o 473 0 1], 100, 0, none⟩),
(194, ⟨[o 479 0 1], 100, 0, none⟩),
e 197 100,
e 200 100,
e 203 100,
(206, ⟨[o 481 0 1], 100, 0, none⟩),
(212, ⟨[o 829 0 1], 100, 0, none⟩),
e 215 100,
e 218 100,
e 221 100,
e 224 100,
e 227 100,
e 230 100,
(233, ⟨[o 831 0 1], 100, 0, none⟩),
e 239 100,
e 242 100,
e 245 100,
e 248 100,
e 251 100,
e 254 100,
e 257 100,
e 260 100,
e 263 100,
e 266 100,
e 269 100,
(271, ⟨[.ptr 179 0, .ptr 188 0, .ptr 197 0, .ptr 206 0, .ptr 215 0, .ptr 224 0, .ptr 233 0, .ptr 242 0, .ptr 251 0, .ptr 260 0, .ptr 269 0], 97, 1, none⟩),
e 272 100,
(274, ⟨[.ptr 182 0, .ptr 1316 0, .ptr 200 0, .ptr 1324 0, .ptr 218 0, .ptr 227 0, .ptr 1332 0, .ptr 245 0, .ptr 254 0, .ptr 263 0, .ptr 272 0], 97, 1, none⟩),
e 275 100,
(277, ⟨[.ptr 185 0, .ptr 194 0, .ptr 203 0, .ptr 212 0, .ptr 221 0, .ptr 230 0, .ptr 239 0, .ptr 248 0, .ptr 257 0, .ptr 266 0, .ptr 275 0], 97, 1, none⟩),
(279, ⟨[.int .u64 (.ofNat 7)], 192, 1, none⟩),
(473, ⟨[.int .u64 (.ofNat 1)], 192, 1, none⟩),
(479, ⟨[.int .u64 (.ofNat 8)], 192, 1, none⟩),
(481, ⟨[.int .u64 (.ofNat 1)], 192, 1, none⟩),
(829, ⟨[.int .u64 (.ofNat 64)], 192, 1, none⟩),
(831, ⟨[.int .u64 (.ofNat 1)], 192, 1, none⟩),
(833, ⟨[i 0, i 0, i 0], 3, 1, none⟩),
(1315, ⟨[.int .u64 (.ofNat 1)], 192, 1, none⟩),
(1316, ⟨[o 1315 0 1], 100, 0, none⟩),
(1323, ⟨[.int .u64 (.ofNat 1)], 192, 1, none⟩),
(1324, ⟨[o 1323 0 1], 100, 0, none⟩),
(1331, ⟨[.int .u64 (.ofNat 1)], 192, 1, none⟩),
(1332, ⟨[o 1331 0 1], 100, 0, none⟩)]
noncomputable def ModrefChain_2t_m0 : MM := ⟨[100], ModrefChain_2t_l0, 32, [⟨100, 0, [.v (.c (.ptr 5 0))], .v (.c (.nili))⟩]⟩
theorem ModrefChain_2t_m0_ok : H0.tbl ModrefChain_2t_m0 = true := by kernel_rfl
noncomputable def ModrefChain_2t_h1 : HK := H0.memo ModrefChain_2t_m0 ModrefChain_2t_m0_ok
noncomputable def ModrefChain_2t_m1 : MM := ⟨[71], [(3, ⟨[o 16 0 3, i 3, i 0, i 0, i 0], 51, 0, none⟩),
(5, ⟨[f 8 0 1, o 11 0 2, .snil, .snil, o 31 0 3, i 0], 44, 0, none⟩),
(22, ⟨[o 20 0 2, i 3, i 1, i 0, i 0], 51, 0, none⟩),
(29, ⟨[o 27 0 2, i 3, i 1, i 0, i 0], 51, 0, none⟩),
(31, ⟨[i 0, o 13 0 2, f 3 0 1, i 1, f 21 0 2, f 22 0 1, i 1, f 28 0 2, f 29 0 1], 48, 3, none⟩)], 91, [⟨71, 0, [.v (.c (.ptr 5 0)), .v (.c (i 0))], .tup [.agg [i 0, i 0, i 0], .c (.bool true)]⟩,
⟨71, 1, [.v (.c (.ptr 5 0)), .v (.c (i 1))], .tup [.agg [i 0, i 0, i 1], .c (.bool true)]⟩,
⟨71, 2, [.v (.c (.ptr 5 0)), .v (.c (i 2))], .tup [.agg [i 0, i 0, i 2], .c (.bool true)]⟩,
⟨71, 3, [.v (.c (.ptr 5 0)), .v (.c (i 3))], .tup [.agg [i 0, i 0, i 3], .c (.bool true)]⟩,
⟨71, 4, [.v (.c (.ptr 5 0)), .v (.c (i 4))], .tup [.agg [i 1, i 0, i 0], .c (.bool true)]⟩,
⟨71, 5, [.v (.c (.ptr 5 0)), .v (.c (i 5))], .tup [.agg [i 1, i 0, i 1], .c (.bool true)]⟩,
⟨71, 6, [.v (.c (.ptr 5 0)), .v (.c (i 6))], .tup [.agg [i 1, i 0, i 2], .c (.bool true)]⟩,
⟨71, 7, [.v (.c (.ptr 5 0)), .v (.c (i 7))], .tup [.agg [i 2, i 0, i 0], .c (.bool true)]⟩,
⟨71, 8, [.v (.c (.ptr 5 0)), .v (.c (i 8))], .tup [.agg [i 2, i 0, i 1], .c (.bool true)]⟩,
⟨71, 9, [.v (.c (.ptr 5 0)), .v (.c (i 9))], .tup [.agg [i 2, i 0, i 2], .c (.bool true)]⟩]⟩
theorem ModrefChain_2t_m1_ok : ModrefChain_2t_h1.tbl ModrefChain_2t_m1 = true := by kernel_rfl
noncomputable def ModrefChain_2t_h2 : HK := ModrefChain_2t_h1.memo ModrefChain_2t_m1 ModrefChain_2t_m1_ok
noncomputable def ModrefChain_2t_s1_b : Bls := ModrefChain_2t_l0
noncomputable def ModrefChain_2t_s1 : RE := ⟨56, [.v (.c (.ptr 5 0))], 32, .v (.c (.ptr 32 0)), [(32, ⟨[o 64 0 3, o 68 0 3, o 109 0 1, o 100 0 1, o 102 0 1, i 11], 173, 0, none⟩),
(38, ⟨[i 0, i 1], 3, 1, none⟩),
(50, ⟨[i 3, i 4], 3, 1, none⟩),
(62, ⟨[i 6, i 7], 3, 1, none⟩),
(64, ⟨[o 38 0 2, o 50 0 2, o 62 0 2], 25, 1, none⟩),
(68, ⟨[i 2, i 5, i 8], 3, 1, none⟩),
(100, ⟨[i 1], 3, 1, none⟩),
(102, ⟨[i 0], 3, 1, none⟩),
(107, ⟨[i 9, i 10], 3, 1, none⟩),
(109, ⟨[o 107 0 2], 25, 1, none⟩)], 150⟩
theorem ModrefChain_2t_s1_ok : ModrefChain_2t_h2.srp ModrefChain_2t_s1_b ModrefChain_2t_s1 = true := by kernel_rfl
noncomputable def ModrefChain_2t_h3 : HK := ModrefChain_2t_h2.srep ModrefChain_2t_s1_b ModrefChain_2t_s1 ModrefChain_2t_s1_ok
noncomputable def ModrefChain_2t_s2_b : Bls := ModrefChain_2t_l0
noncomputable def ModrefChain_2t_s2 : RE := ⟨79, [.v (.c (.ptr 5 0))], 399, .v (.c (o 418 0 10)), [(418, ⟨[i 0, i 0, i 0, i 0, i 0, i 1, i 0, i 0, i 2, i 0, i 0, i 3, i 1, i 0, i 0, i 1, i 0, i 1, i 1, i 0, i 2, i 2, i 0, i 0, i 2, i 0, i 1, i 2, i 0, i 2], 117, 3, none⟩)], 419⟩
theorem ModrefChain_2t_s2_ok : ModrefChain_2t_h3.srp ModrefChain_2t_s2_b ModrefChain_2t_s2 = true := by kernel_rfl
noncomputable def ModrefChain_2t_h4 : HK := ModrefChain_2t_h3.srep ModrefChain_2t_s2_b ModrefChain_2t_s2 ModrefChain_2t_s2_ok
noncomputable def ModrefChain_2t_s3_b : Bls := ModrefChain_2t_l0
noncomputable def ModrefChain_2t_s3 : RE := ⟨15, [.v (.c (.ptr 5 0)), .v (.c (.snil))], 32, .v (.c (.ptr 178 0)), ModrefChain_2t_l1, 1333⟩
theorem ModrefChain_2t_s3_ok : ModrefChain_2t_h4.rep ModrefChain_2t_s3_b ModrefChain_2t_s3 = true := by kernel_rfl
noncomputable def ModrefChain_2t_h5 : HK := ModrefChain_2t_h4.repl ModrefChain_2t_s3_b ModrefChain_2t_s3 ModrefChain_2t_s3_ok
theorem ModrefChain_2t_run : isBool true (runW ModrefChain_2t_h5.K 8 [ai (Int.ofNat 2), ab true] s0) = true := by kernel_rfl
theorem ModrefChain_2t_law {args : Array Value} (ha : VAs (fun _ => none) [ai (Int.ofNat 2), ab true] args.toList) (w : World) (hT : Tab w) :
    Calls Tryz.prog 8 args w fun e w' => Below w.heap.size w w' ∧ e = .returned (.bool true) := ModrefChain_2t_h5.law ModrefChain_2t_run ha w hT
private noncomputable abbrev ModrefChain_2f_l0 : Bls := [(3, ⟨[o 16 0 3, i 3, i 0, i 0, i 0], 51, 0, none⟩),
(5, ⟨[f 8 0 1, o 11 0 2, .snil, .snil, o 31 0 3, i 0], 44, 0, none⟩),
(7, ⟨[i 0, i 0, i 0, i 0], 36, 0, none⟩),
(8, ⟨[f 7 0 2], 37, 0, none⟩),
(9, ⟨[i 1, i 0], 36, 0, none⟩),
(11, ⟨[.snil, i 0, i 0, f 9 0 1, i 0, i 0], 63, 3, none⟩),
(13, ⟨[i 0, i 0, i 1, i 0], 36, 2, none⟩),
(14, ⟨[i 1], 3, 0, none⟩),
(16, ⟨[i 1, i 0, i 0, i 0, i 7, .snil, i 5, i 1, i 0, i 0, i 0, .snil, i 12, i 0, i 0, i 0, i 1, f 14 0 1], 53, 6, none⟩),
(18, ⟨[i 0], 3, 0, none⟩),
(20, ⟨[i 1, i 1, i 0, i 0, i 0, .snil, i 12, i 1, i 0, i 0, i 2, f 18 0 1], 53, 6, none⟩),
(21, ⟨[i 1, i 0, i 0, i 0], 36, 0, none⟩),
(22, ⟨[o 20 0 2, i 3, i 1, i 0, i 0], 51, 0, none⟩),
(27, ⟨[i 1, i 1, i 0, i 0, i 0, .snil, i 7, i 1, i 0, i 0, i 1, .snil], 53, 6, none⟩),
(28, ⟨[i 1, i 0, i 0, i 0], 36, 0, none⟩),
(29, ⟨[o 27 0 2, i 3, i 1, i 0, i 0], 51, 0, none⟩),
(31, ⟨[i 0, o 13 0 2, f 3 0 1, i 1, f 21 0 2, f 22 0 1, i 1, f 28 0 2, f 29 0 1], 48, 3, none⟩)]
private noncomputable abbrev ModrefChain_2f_l1 : Bls := [(32, ⟨[o 64 0 3, o 68 0 3, o 109 0 1, o 100 0 1, o 102 0 1, i 11], 173, 0, none⟩),
(38, ⟨[i 0, i 1], 3, 1, none⟩),
(50, ⟨[i 3, i 4], 3, 1, none⟩),
(62, ⟨[i 6, i 7], 3, 1, none⟩),
(64, ⟨[o 38 0 2, o 50 0 2, o 62 0 2], 25, 1, none⟩),
(68, ⟨[i 2, i 5, i 8], 3, 1, none⟩),
(100, ⟨[i 1], 3, 1, none⟩),
(102, ⟨[i 0], 3, 1, none⟩),
(107, ⟨[i 9, i 10], 3, 1, none⟩),
(109, ⟨[o 107 0 2], 25, 1, none⟩),
(150, ⟨[o 172 0 11], 175, 0, none⟩),
(172, ⟨[i 0, i 1, i 2, i 3, i 4, i 5, i 6, i 7, i 8, i 9, i 10], 3, 1, none⟩),
(173, ⟨[.snil, .snil, .snil, .snil, .snil, .snil, .snil, .snil, .snil, .snil, .snil], 179, 0, none⟩),
(174, ⟨[o 279 0 1], 100, 0, none⟩),
(175, ⟨[], 0, 0, some (.map [(0, .agg [i 2, i 1], .c (.bool true)), (1, .agg [i 5, i 2], .c (.bool true))] 2)⟩),
(176, ⟨[], 0, 0, some (.map [] 3)⟩),
(177, ⟨[.snil, o 833 0 0, .map 176, i 3], 178, 0, none⟩),
(178, ⟨[.ptr 5 0, .ptr 32 0, .ptr 150 0, o 271 0 11, o 274 0 11, o 277 0 11, f 173 0 11, .ptr 174 0, .map 175, .ptr 177 0], 106, 0, none⟩),
e 179 100,
e 182 100,
e 185 100,
(188, ⟨[o 473 0 1], 100, 0, none⟩),
(194, ⟨[o 479 0 1], 100, 0, none⟩),
e 197 100,
e 200 100,
e 203 100,
(206, ⟨[o 481 0 1], 100, 0, none⟩),
(212, ⟨[o 829 0 1], 100, 0, none⟩),
e 215 100,
e 218 100,
e 221 100,
e 224 100,
e 227 100,
e 230 100,
(233, ⟨[o 831 0 1], 100, 0, none⟩),
e 239 100,
e 242 100,
e 245 100,
e 248 100,
e 251 100,
e 254 100,
e 257 100,
e 260 100,
e 263 100,
e 266 100,
e 269 100,
(271, ⟨[.ptr 179 0, .ptr 188 0, .ptr 197 0, .ptr 206 0, .ptr 215 0, .ptr 224 0, .ptr 233 0, .ptr 242 0, .ptr 251 0, .ptr 260 0, .ptr 269 0], 97, 1, none⟩),
e 272 100,
(274, ⟨[.ptr 182 0, .ptr 1316 0, .ptr 200 0, .ptr 1324 0, .ptr 218 0, .ptr 227 0, .ptr 1332 0, .ptr 245 0, .ptr 254 0, .ptr 263 0, .ptr 272 0], 97, 1, none⟩),
e 275 100,
(277, ⟨[.ptr 185 0, .ptr 194 0, .ptr 203 0, .ptr 212 0, .ptr 221 0, .ptr 230 0, .ptr 239 0, .ptr 248 0, .ptr 257 0, .ptr 266 0, .ptr 275 0], 97, 1, none⟩),
(279, ⟨[.int .u64 (.ofNat 7)], 192, 1, none⟩),
(473, ⟨[.int .u64 (.ofNat 1)], 192, 1, none⟩),
(479, ⟨[.int .u64 (.ofNat 8)], 192, 1, none⟩),
(481, ⟨[.int .u64 (.ofNat 1)], 192, 1, none⟩),
(829, ⟨[.int .u64 (.ofNat 64)], 192, 1, none⟩),
(831, ⟨[.int .u64 (.ofNat 1)], 192, 1, none⟩),
(833, ⟨[i 0, i 0, i 0], 3, 1, none⟩),
(1315, ⟨[.int .u64 (.ofNat 1)], 192, 1, none⟩),
(1316, ⟨[o 1315 0 1], 100, 0, none⟩),
(1323, ⟨[.int .u64 (.ofNat 1)], 192, 1, none⟩),
(1324, ⟨[o 1323 0 1], 100, 0, none⟩),
(1331, ⟨[.int .u64 (.ofNat 1)], 192, 1, none⟩),
(1332, ⟨[o 1331 0 1], 100, 0, none⟩)]
noncomputable def ModrefChain_2f_m0 : MM := ⟨[100], ModrefChain_2f_l0, 32, [⟨100, 0, [.v (.c (.ptr 5 0))], .v (.c (.nili))⟩]⟩
theorem ModrefChain_2f_m0_ok : H0.tbl ModrefChain_2f_m0 = true := by kernel_rfl
noncomputable def ModrefChain_2f_h1 : HK := H0.memo ModrefChain_2f_m0 ModrefChain_2f_m0_ok
noncomputable def ModrefChain_2f_m1 : MM := ⟨[71], [(3, ⟨[o 16 0 3, i 3, i 0, i 0, i 0], 51, 0, none⟩),
(5, ⟨[f 8 0 1, o 11 0 2, .snil, .snil, o 31 0 3, i 0], 44, 0, none⟩),
(22, ⟨[o 20 0 2, i 3, i 1, i 0, i 0], 51, 0, none⟩),
(29, ⟨[o 27 0 2, i 3, i 1, i 0, i 0], 51, 0, none⟩),
(31, ⟨[i 0, o 13 0 2, f 3 0 1, i 1, f 21 0 2, f 22 0 1, i 1, f 28 0 2, f 29 0 1], 48, 3, none⟩)], 91, [⟨71, 0, [.v (.c (.ptr 5 0)), .v (.c (i 0))], .tup [.agg [i 0, i 0, i 0], .c (.bool true)]⟩,
⟨71, 1, [.v (.c (.ptr 5 0)), .v (.c (i 1))], .tup [.agg [i 0, i 0, i 1], .c (.bool true)]⟩,
⟨71, 2, [.v (.c (.ptr 5 0)), .v (.c (i 2))], .tup [.agg [i 0, i 0, i 2], .c (.bool true)]⟩,
⟨71, 3, [.v (.c (.ptr 5 0)), .v (.c (i 3))], .tup [.agg [i 0, i 0, i 3], .c (.bool true)]⟩,
⟨71, 4, [.v (.c (.ptr 5 0)), .v (.c (i 4))], .tup [.agg [i 1, i 0, i 0], .c (.bool true)]⟩,
⟨71, 5, [.v (.c (.ptr 5 0)), .v (.c (i 5))], .tup [.agg [i 1, i 0, i 1], .c (.bool true)]⟩,
⟨71, 6, [.v (.c (.ptr 5 0)), .v (.c (i 6))], .tup [.agg [i 1, i 0, i 2], .c (.bool true)]⟩,
⟨71, 7, [.v (.c (.ptr 5 0)), .v (.c (i 7))], .tup [.agg [i 2, i 0, i 0], .c (.bool true)]⟩,
⟨71, 8, [.v (.c (.ptr 5 0)), .v (.c (i 8))], .tup [.agg [i 2, i 0, i 1], .c (.bool true)]⟩,
⟨71, 9, [.v (.c (.ptr 5 0)), .v (.c (i 9))], .tup [.agg [i 2, i 0, i 2], .c (.bool true)]⟩]⟩
theorem ModrefChain_2f_m1_ok : ModrefChain_2f_h1.tbl ModrefChain_2f_m1 = true := by kernel_rfl
noncomputable def ModrefChain_2f_h2 : HK := ModrefChain_2f_h1.memo ModrefChain_2f_m1 ModrefChain_2f_m1_ok
noncomputable def ModrefChain_2f_s1_b : Bls := ModrefChain_2f_l0
noncomputable def ModrefChain_2f_s1 : RE := ⟨56, [.v (.c (.ptr 5 0))], 32, .v (.c (.ptr 32 0)), [(32, ⟨[o 64 0 3, o 68 0 3, o 109 0 1, o 100 0 1, o 102 0 1, i 11], 173, 0, none⟩),
(38, ⟨[i 0, i 1], 3, 1, none⟩),
(50, ⟨[i 3, i 4], 3, 1, none⟩),
(62, ⟨[i 6, i 7], 3, 1, none⟩),
(64, ⟨[o 38 0 2, o 50 0 2, o 62 0 2], 25, 1, none⟩),
(68, ⟨[i 2, i 5, i 8], 3, 1, none⟩),
(100, ⟨[i 1], 3, 1, none⟩),
(102, ⟨[i 0], 3, 1, none⟩),
(107, ⟨[i 9, i 10], 3, 1, none⟩),
(109, ⟨[o 107 0 2], 25, 1, none⟩)], 150⟩
theorem ModrefChain_2f_s1_ok : ModrefChain_2f_h2.srp ModrefChain_2f_s1_b ModrefChain_2f_s1 = true := by kernel_rfl
noncomputable def ModrefChain_2f_h3 : HK := ModrefChain_2f_h2.srep ModrefChain_2f_s1_b ModrefChain_2f_s1 ModrefChain_2f_s1_ok
noncomputable def ModrefChain_2f_s2_b : Bls := ModrefChain_2f_l0
noncomputable def ModrefChain_2f_s2 : RE := ⟨79, [.v (.c (.ptr 5 0))], 399, .v (.c (o 418 0 10)), [(418, ⟨[i 0, i 0, i 0, i 0, i 0, i 1, i 0, i 0, i 2, i 0, i 0, i 3, i 1, i 0, i 0, i 1, i 0, i 1, i 1, i 0, i 2, i 2, i 0, i 0, i 2, i 0, i 1, i 2, i 0, i 2], 117, 3, none⟩)], 419⟩
theorem ModrefChain_2f_s2_ok : ModrefChain_2f_h3.srp ModrefChain_2f_s2_b ModrefChain_2f_s2 = true := by kernel_rfl
noncomputable def ModrefChain_2f_h4 : HK := ModrefChain_2f_h3.srep ModrefChain_2f_s2_b ModrefChain_2f_s2 ModrefChain_2f_s2_ok
noncomputable def ModrefChain_2f_s3_b : Bls := ModrefChain_2f_l0
noncomputable def ModrefChain_2f_s3 : RE := ⟨15, [.v (.c (.ptr 5 0)), .v (.c (.snil))], 32, .v (.c (.ptr 178 0)), ModrefChain_2f_l1, 1333⟩
theorem ModrefChain_2f_s3_ok : ModrefChain_2f_h4.rep ModrefChain_2f_s3_b ModrefChain_2f_s3 = true := by kernel_rfl
noncomputable def ModrefChain_2f_h5 : HK := ModrefChain_2f_h4.repl ModrefChain_2f_s3_b ModrefChain_2f_s3 ModrefChain_2f_s3_ok
theorem ModrefChain_2f_run : isBool true (runW ModrefChain_2f_h5.K 8 [ai (Int.ofNat 2), ab false] s0) = true := by kernel_rfl
theorem ModrefChain_2f_law {args : Array Value} (ha : VAs (fun _ => none) [ai (Int.ofNat 2), ab false] args.toList) (w : World) (hT : Tab w) :
    Calls Tryz.prog 8 args w fun e w' => Below w.heap.size w w' ∧ e = .returned (.bool true) := ModrefChain_2f_h5.law ModrefChain_2f_run ha w hT
end Go.Proofs.YtjjfahgdmaikpaaGreatDoor
