/- Tables of calls, and a run that uses them. -/
import Derived.Test.YtjjfahgdmaikpaaGreatDoorLn20
namespace Go.Proofs.YtjjfahgdmaikpaaGreatDoor
open Go Go.RowKit Ev
set_option maxRecDepth 100000
set_option linter.unusedVariables false
private noncomputable abbrev i (n : Nat) : CV := .int .i64 (.ofNat n)
private noncomputable abbrev o (b a n : Nat) : CV := .slice b a n (.opn 0)
private noncomputable abbrev f (b a n : Nat) : CV := .slice b a n (.fix n)
private noncomputable abbrev e (k t : Nat) : Nat × BK := (k, ⟨[.snil], t, 0, none⟩)
private noncomputable abbrev ModrefChain_1t_l0 : Bls := [(3, ⟨[o 16 0 3, i 3, i 0, i 0, i 0], 51, 0, none⟩),
(5, ⟨[f 8 0 1, o 11 0 2, .snil, .snil, o 23 0 2, i 0], 44, 0, none⟩),
(7, ⟨[i 0, i 0, i 0, i 0], 36, 0, none⟩),
(8, ⟨[f 7 0 2], 37, 0, none⟩),
(9, ⟨[i 1, i 0], 36, 0, none⟩),
(11, ⟨[.snil, i 0, i 0, f 9 0 1, i 0, i 0], 63, 3, none⟩),
(13, ⟨[i 0, i 0, i 1, i 0], 36, 2, none⟩),
(14, ⟨[i 1], 3, 0, none⟩),
(16, ⟨[i 1, i 0, i 0, i 0, i 7, .snil, i 5, i 1, i 0, i 0, i 0, .snil, i 12, i 0, i 0, i 0, i 1, f 14 0 1], 53, 6, none⟩),
(19, ⟨[i 1, i 1, i 0, i 0, i 0, .snil, i 8, i 0, i 0, i 1, i 1, .snil], 53, 6, none⟩),
(20, ⟨[i 1, i 0, i 0, i 0], 36, 0, none⟩),
(21, ⟨[o 19 0 2, i 3, i 1, i 0, i 0], 51, 0, none⟩),
(23, ⟨[i 0, o 13 0 2, f 3 0 1, i 1, f 20 0 2, f 21 0 1], 48, 3, none⟩)]
private noncomputable abbrev ModrefChain_1t_l1 : Bls := [(24, ⟨[o 44 0 2, o 48 0 2, o 83 0 1, o 74 0 1, o 76 0 1, i 8], 173, 0, none⟩),
(30, ⟨[i 0, i 1], 3, 1, none⟩),
(42, ⟨[i 3, i 4], 3, 1, none⟩),
(44, ⟨[o 30 0 2, o 42 0 2], 25, 1, none⟩),
(48, ⟨[i 2, i 5], 3, 1, none⟩),
(74, ⟨[i 1], 3, 1, none⟩),
(76, ⟨[i 0], 3, 1, none⟩),
(81, ⟨[i 6, i 7], 3, 1, none⟩),
(83, ⟨[o 81 0 2], 25, 1, none⟩),
(109, ⟨[o 125 0 8], 175, 0, none⟩),
(125, ⟨[i 0, i 1, i 2, i 3, i 4, i 5, i 6, i 7], 3, 1, none⟩),
(126, ⟨[.snil, .snil, .snil, .snil, .snil, .snil, .snil, .snil], 179, 0, none⟩),
(127, ⟨[o 205 0 1], 100, 0, none⟩),
(128, ⟨[], 0, 0, some (.map [(0, .agg [i 2, i 1], .c (.bool true))] 1)⟩),
(129, ⟨[], 0, 0, some (.map [] 2)⟩),
(130, ⟨[.snil, o 367 0 0, .map 129, i 2], 178, 0, none⟩),
(131, ⟨[.ptr 5 0, .ptr 24 0, .ptr 109 0, o 197 0 8, o 200 0 8, o 203 0 8, f 126 0 8, .ptr 127 0, .map 128, .ptr 130 0], 106, 0, none⟩),
e 132 100,
e 135 100,
e 138 100,
(141, ⟨[o 357 0 1], 100, 0, none⟩),
(147, ⟨[o 363 0 1], 100, 0, none⟩),
e 150 100,
e 153 100,
e 156 100,
(159, ⟨[o 365 0 1], 100, 0, none⟩),
e 165 100,
e 168 100,
e 171 100,
e 174 100,
e 177 100,
e 180 100,
e 183 100,
e 186 100,
e 189 100,
e 192 100,
e 195 100,
(197, ⟨[.ptr 132 0, .ptr 141 0, .ptr 150 0, .ptr 159 0, .ptr 168 0, .ptr 177 0, .ptr 186 0, .ptr 195 0], 97, 1, none⟩),
e 198 100,
(200, ⟨[.ptr 135 0, .ptr 698 0, .ptr 153 0, .ptr 706 0, .ptr 171 0, .ptr 180 0, .ptr 189 0, .ptr 198 0], 97, 1, none⟩),
e 201 100,
(203, ⟨[.ptr 138 0, .ptr 147 0, .ptr 156 0, .ptr 165 0, .ptr 174 0, .ptr 183 0, .ptr 192 0, .ptr 201 0], 97, 1, none⟩),
(205, ⟨[.int .u64 (.ofNat 3)], 192, 1, none⟩),
(357, ⟨[.int .u64 (.ofNat 1)], 192, 1, none⟩),
(363, ⟨[.int .u64 (.ofNat 8)], 192, 1, none⟩),
(365, ⟨[.int .u64 (.ofNat 1)], 192, 1, none⟩),
(367, ⟨[i 0, i 0], 3, 1, none⟩),
(697, ⟨[.int .u64 (.ofNat 1)], 192, 1, none⟩),
(698, ⟨[o 697 0 1], 100, 0, none⟩),
(705, ⟨[.int .u64 (.ofNat 1)], 192, 1, none⟩),
(706, ⟨[o 705 0 1], 100, 0, none⟩)]
noncomputable def ModrefChain_1t_m0 : MM := ⟨[100], ModrefChain_1t_l0, 24, [⟨100, 0, [.v (.c (.ptr 5 0))], .v (.c (.nili))⟩]⟩
theorem ModrefChain_1t_m0_ok : H0.tbl ModrefChain_1t_m0 = true := by kernel_rfl
noncomputable def ModrefChain_1t_h1 : HK := H0.memo ModrefChain_1t_m0 ModrefChain_1t_m0_ok
noncomputable def ModrefChain_1t_m1 : MM := ⟨[71], [(3, ⟨[o 16 0 3, i 3, i 0, i 0, i 0], 51, 0, none⟩),
(5, ⟨[f 8 0 1, o 11 0 2, .snil, .snil, o 23 0 2, i 0], 44, 0, none⟩),
(21, ⟨[o 19 0 2, i 3, i 1, i 0, i 0], 51, 0, none⟩),
(23, ⟨[i 0, o 13 0 2, f 3 0 1, i 1, f 20 0 2, f 21 0 1], 48, 3, none⟩)], 65, [⟨71, 0, [.v (.c (.ptr 5 0)), .v (.c (i 0))], .tup [.agg [i 0, i 0, i 0], .c (.bool true)]⟩,
⟨71, 1, [.v (.c (.ptr 5 0)), .v (.c (i 1))], .tup [.agg [i 0, i 0, i 1], .c (.bool true)]⟩,
⟨71, 2, [.v (.c (.ptr 5 0)), .v (.c (i 2))], .tup [.agg [i 0, i 0, i 2], .c (.bool true)]⟩,
⟨71, 3, [.v (.c (.ptr 5 0)), .v (.c (i 3))], .tup [.agg [i 0, i 0, i 3], .c (.bool true)]⟩,
⟨71, 4, [.v (.c (.ptr 5 0)), .v (.c (i 4))], .tup [.agg [i 1, i 0, i 0], .c (.bool true)]⟩,
⟨71, 5, [.v (.c (.ptr 5 0)), .v (.c (i 5))], .tup [.agg [i 1, i 0, i 1], .c (.bool true)]⟩,
⟨71, 6, [.v (.c (.ptr 5 0)), .v (.c (i 6))], .tup [.agg [i 1, i 0, i 2], .c (.bool true)]⟩]⟩
theorem ModrefChain_1t_m1_ok : ModrefChain_1t_h1.tbl ModrefChain_1t_m1 = true := by kernel_rfl
noncomputable def ModrefChain_1t_h2 : HK := ModrefChain_1t_h1.memo ModrefChain_1t_m1 ModrefChain_1t_m1_ok
noncomputable def ModrefChain_1t_s1_b : Bls := ModrefChain_1t_l0
noncomputable def ModrefChain_1t_s1 : RE := ⟨56, [.v (.c (.ptr 5 0))], 24, .v (.c (.ptr 24 0)), [(24, ⟨[o 44 0 2, o 48 0 2, o 83 0 1, o 74 0 1, o 76 0 1, i 8], 173, 0, none⟩),
(30, ⟨[i 0, i 1], 3, 1, none⟩),
(42, ⟨[i 3, i 4], 3, 1, none⟩),
(44, ⟨[o 30 0 2, o 42 0 2], 25, 1, none⟩),
(48, ⟨[i 2, i 5], 3, 1, none⟩),
(74, ⟨[i 1], 3, 1, none⟩),
(76, ⟨[i 0], 3, 1, none⟩),
(81, ⟨[i 6, i 7], 3, 1, none⟩),
(83, ⟨[o 81 0 2], 25, 1, none⟩)], 109⟩
theorem ModrefChain_1t_s1_ok : ModrefChain_1t_h2.srp ModrefChain_1t_s1_b ModrefChain_1t_s1 = true := by kernel_rfl
noncomputable def ModrefChain_1t_h3 : HK := ModrefChain_1t_h2.srep ModrefChain_1t_s1_b ModrefChain_1t_s1 ModrefChain_1t_s1_ok
noncomputable def ModrefChain_1t_s2_b : Bls := ModrefChain_1t_l0
noncomputable def ModrefChain_1t_s2 : RE := ⟨79, [.v (.c (.ptr 5 0))], 292, .v (.c (o 305 0 7)), [(305, ⟨[i 0, i 0, i 0, i 0, i 0, i 1, i 0, i 0, i 2, i 0, i 0, i 3, i 1, i 0, i 0, i 1, i 0, i 1, i 1, i 0, i 2], 117, 3, none⟩)], 306⟩
theorem ModrefChain_1t_s2_ok : ModrefChain_1t_h3.srp ModrefChain_1t_s2_b ModrefChain_1t_s2 = true := by kernel_rfl
noncomputable def ModrefChain_1t_h4 : HK := ModrefChain_1t_h3.srep ModrefChain_1t_s2_b ModrefChain_1t_s2 ModrefChain_1t_s2_ok
noncomputable def ModrefChain_1t_s3_b : Bls := ModrefChain_1t_l0
noncomputable def ModrefChain_1t_s3 : RE := ⟨15, [.v (.c (.ptr 5 0)), .v (.c (.snil))], 24, .v (.c (.ptr 131 0)), ModrefChain_1t_l1, 707⟩
theorem ModrefChain_1t_s3_ok : ModrefChain_1t_h4.rep ModrefChain_1t_s3_b ModrefChain_1t_s3 = true := by kernel_rfl
noncomputable def ModrefChain_1t_h5 : HK := ModrefChain_1t_h4.repl ModrefChain_1t_s3_b ModrefChain_1t_s3 ModrefChain_1t_s3_ok
theorem ModrefChain_1t_run : isBool true (runW ModrefChain_1t_h5.K 8 [ai (Int.ofNat 1), ab true] s0) = true := by kernel_rfl
theorem ModrefChain_1t_law {args : Array Value} (ha : VAs (fun _ => none) [ai (Int.ofNat 1), ab true] args.toList) (w : World) (hT : Tab w) :
    Calls Tryz.prog 8 args w fun e w' => Below w.heap.size w w' ∧ e = .returned (.bool true) := ModrefChain_1t_h5.law ModrefChain_1t_run ha w hT
private noncomputable abbrev ModrefChain_1f_l0 : Bls := [(3, ⟨[o 16 0 3, i 3, i 0, i 0, i 0], 51, 0, none⟩),
(5, ⟨[f 8 0 1, o 11 0 2, .snil, .snil, o 23 0 2, i 0], 44, 0, none⟩),
(7, ⟨[i 0, i 0, i 0, i 0], 36, 0, none⟩),
(8, ⟨[f 7 0 2], 37, 0, none⟩),
(9, ⟨[i 1, i 0], 36, 0, none⟩),
(11, ⟨[.snil, i 0, i 0, f 9 0 1, i 0, i 0], 63, 3, none⟩),
(13, ⟨[i 0, i 0, i 1, i 0], 36, 2, none⟩),
(14, ⟨[i 1], 3, 0, none⟩),
(16, ⟨[i 1, i 0, i 0, i 0, i 7, .snil, i 5, i 1, i 0, i 0, i 0, .snil, i 12, i 0, i 0, i 0, i 1, f 14 0 1], 53, 6, none⟩),
(19, ⟨[i 1, i 1, i 0, i 0, i 0, .snil, i 7, i 1, i 0, i 0, i 1, .snil], 53, 6, none⟩),
(20, ⟨[i 1, i 0, i 0, i 0], 36, 0, none⟩),
(21, ⟨[o 19 0 2, i 3, i 1, i 0, i 0], 51, 0, none⟩),
(23, ⟨[i 0, o 13 0 2, f 3 0 1, i 1, f 20 0 2, f 21 0 1], 48, 3, none⟩)]
private noncomputable abbrev ModrefChain_1f_l1 : Bls := [(24, ⟨[o 44 0 2, o 48 0 2, o 83 0 1, o 74 0 1, o 76 0 1, i 8], 173, 0, none⟩),
(30, ⟨[i 0, i 1], 3, 1, none⟩),
(42, ⟨[i 3, i 4], 3, 1, none⟩),
(44, ⟨[o 30 0 2, o 42 0 2], 25, 1, none⟩),
(48, ⟨[i 2, i 5], 3, 1, none⟩),
(74, ⟨[i 1], 3, 1, none⟩),
(76, ⟨[i 0], 3, 1, none⟩),
(81, ⟨[i 6, i 7], 3, 1, none⟩),
(83, ⟨[o 81 0 2], 25, 1, none⟩),
(109, ⟨[o 125 0 8], 175, 0, none⟩),
(125, ⟨[i 0, i 1, i 2, i 3, i 4, i 5, i 6, i 7], 3, 1, none⟩),
(126, ⟨[.snil, .snil, .snil, .snil, .snil, .snil, .snil, .snil], 179, 0, none⟩),
(127, ⟨[o 205 0 1], 100, 0, none⟩),
(128, ⟨[], 0, 0, some (.map [(0, .agg [i 2, i 1], .c (.bool true))] 1)⟩),
(129, ⟨[], 0, 0, some (.map [] 2)⟩),
(130, ⟨[.snil, o 367 0 0, .map 129, i 2], 178, 0, none⟩),
(131, ⟨[.ptr 5 0, .ptr 24 0, .ptr 109 0, o 197 0 8, o 200 0 8, o 203 0 8, f 126 0 8, .ptr 127 0, .map 128, .ptr 130 0], 106, 0, none⟩),
e 132 100,
e 135 100,
e 138 100,
(141, ⟨[o 357 0 1], 100, 0, none⟩),
(147, ⟨[o 363 0 1], 100, 0, none⟩),
e 150 100,
e 153 100,
e 156 100,
(159, ⟨[o 365 0 1], 100, 0, none⟩),
e 165 100,
e 168 100,
e 171 100,
e 174 100,
e 177 100,
e 180 100,
e 183 100,
e 186 100,
e 189 100,
e 192 100,
e 195 100,
(197, ⟨[.ptr 132 0, .ptr 141 0, .ptr 150 0, .ptr 159 0, .ptr 168 0, .ptr 177 0, .ptr 186 0, .ptr 195 0], 97, 1, none⟩),
e 198 100,
(200, ⟨[.ptr 135 0, .ptr 698 0, .ptr 153 0, .ptr 706 0, .ptr 171 0, .ptr 180 0, .ptr 189 0, .ptr 198 0], 97, 1, none⟩),
e 201 100,
(203, ⟨[.ptr 138 0, .ptr 147 0, .ptr 156 0, .ptr 165 0, .ptr 174 0, .ptr 183 0, .ptr 192 0, .ptr 201 0], 97, 1, none⟩),
(205, ⟨[.int .u64 (.ofNat 3)], 192, 1, none⟩),
(357, ⟨[.int .u64 (.ofNat 1)], 192, 1, none⟩),
(363, ⟨[.int .u64 (.ofNat 8)], 192, 1, none⟩),
(365, ⟨[.int .u64 (.ofNat 1)], 192, 1, none⟩),
(367, ⟨[i 0, i 0], 3, 1, none⟩),
(697, ⟨[.int .u64 (.ofNat 1)], 192, 1, none⟩),
(698, ⟨[o 697 0 1], 100, 0, none⟩),
(705, ⟨[.int .u64 (.ofNat 1)], 192, 1, none⟩),
(706, ⟨[o 705 0 1], 100, 0, none⟩)]
noncomputable def ModrefChain_1f_m0 : MM := ⟨[100], ModrefChain_1f_l0, 24, [⟨100, 0, [.v (.c (.ptr 5 0))], .v (.c (.nili))⟩]⟩
theorem ModrefChain_1f_m0_ok : H0.tbl ModrefChain_1f_m0 = true := by kernel_rfl
noncomputable def ModrefChain_1f_h1 : HK := H0.memo ModrefChain_1f_m0 ModrefChain_1f_m0_ok
noncomputable def ModrefChain_1f_m1 : MM := ⟨[71], [(3, ⟨[o 16 0 3, i 3, i 0, i 0, i 0], 51, 0, none⟩),
(5, ⟨[f 8 0 1, o 11 0 2, .snil, .snil, o 23 0 2, i 0], 44, 0, none⟩),
(21, ⟨[o 19 0 2, i 3, i 1, i 0, i 0], 51, 0, none⟩),
(23, ⟨[i 0, o 13 0 2, f 3 0 1, i 1, f 20 0 2, f 21 0 1], 48, 3, none⟩)], 65, [⟨71, 0, [.v (.c (.ptr 5 0)), .v (.c (i 0))], .tup [.agg [i 0, i 0, i 0], .c (.bool true)]⟩,
⟨71, 1, [.v (.c (.ptr 5 0)), .v (.c (i 1))], .tup [.agg [i 0, i 0, i 1], .c (.bool true)]⟩,
⟨71, 2, [.v (.c (.ptr 5 0)), .v (.c (i 2))], .tup [.agg [i 0, i 0, i 2], .c (.bool true)]⟩,
⟨71, 3, [.v (.c (.ptr 5 0)), .v (.c (i 3))], .tup [.agg [i 0, i 0, i 3], .c (.bool true)]⟩,
⟨71, 4, [.v (.c (.ptr 5 0)), .v (.c (i 4))], .tup [.agg [i 1, i 0, i 0], .c (.bool true)]⟩,
⟨71, 5, [.v (.c (.ptr 5 0)), .v (.c (i 5))], .tup [.agg [i 1, i 0, i 1], .c (.bool true)]⟩,
⟨71, 6, [.v (.c (.ptr 5 0)), .v (.c (i 6))], .tup [.agg [i 1, i 0, i 2], .c (.bool true)]⟩]⟩
theorem ModrefChain_1f_m1_ok : ModrefChain_1f_h1.tbl ModrefChain_1f_m1 = true := by kernel_rfl
noncomputable def ModrefChain_1f_h2 : HK := ModrefChain_1f_h1.memo ModrefChain_1f_m1 ModrefChain_1f_m1_ok
noncomputable def ModrefChain_1f_s1_b : Bls := ModrefChain_1f_l0
noncomputable def ModrefChain_1f_s1 : RE := ⟨56, [.v (.c (.ptr 5 0))], 24, .v (.c (.ptr 24 0)), [(24, ⟨[o 44 0 2, o 48 0 2, o 83 0 1, o 74 0 1, o 76 0 1, i 8], 173, 0, none⟩),
(30, ⟨[i 0, i 1], 3, 1, none⟩),
(42, ⟨[i 3, i 4], 3, 1, none⟩),
(44, ⟨[o 30 0 2, o 42 0 2], 25, 1, none⟩),
(48, ⟨[i 2, i 5], 3, 1, none⟩),
(74, ⟨[i 1], 3, 1, none⟩),
(76, ⟨[i 0], 3, 1, none⟩),
(81, ⟨[i 6, i 7], 3, 1, none⟩),
(83, ⟨[o 81 0 2], 25, 1, none⟩)], 109⟩
theorem ModrefChain_1f_s1_ok : ModrefChain_1f_h2.srp ModrefChain_1f_s1_b ModrefChain_1f_s1 = true := by kernel_rfl
noncomputable def ModrefChain_1f_h3 : HK := ModrefChain_1f_h2.srep ModrefChain_1f_s1_b ModrefChain_1f_s1 ModrefChain_1f_s1_ok
noncomputable def ModrefChain_1f_s2_b : Bls := ModrefChain_1f_l0
noncomputable def ModrefChain_1f_s2 : RE := ⟨79, [.v (.c (.ptr 5 0))], 292, .v (.c (o 305 0 7)), [(305, ⟨[i 0, i 0, i 0, i 0, i 0, i 1, i 0, i 0, i 2, i 0, i 0, i 3, i 1, i 0, i 0, i 1, i 0, i 1, i 1, i 0, i 2], 117, 3, none⟩)], 306⟩
theorem ModrefChain_1f_s2_ok : ModrefChain_1f_h3.srp ModrefChain_1f_s2_b ModrefChain_1f_s2 = true := by kernel_rfl
noncomputable def ModrefChain_1f_h4 : HK := ModrefChain_1f_h3.srep ModrefChain_1f_s2_b ModrefChain_1f_s2 ModrefChain_1f_s2_ok
noncomputable def ModrefChain_1f_s3_b : Bls := ModrefChain_1f_l0
noncomputable def ModrefChain_1f_s3 : RE := ⟨15, [.v (.c (.ptr 5 0)), .v (.c (.snil))], 24, .v (.c (.ptr 131 0)), ModrefChain_1f_l1, 707⟩
theorem ModrefChain_1f_s3_ok : ModrefChain_1f_h4.rep ModrefChain_1f_s3_b ModrefChain_1f_s3 = true := by kernel_rfl
noncomputable def ModrefChain_1f_h5 : HK := ModrefChain_1f_h4.repl ModrefChain_1f_s3_b ModrefChain_1f_s3 ModrefChain_1f_s3_ok
theorem ModrefChain_1f_run : isBool true (runW ModrefChain_1f_h5.K 8 [ai (Int.ofNat 1), ab false] s0) = true := by kernel_rfl
theorem ModrefChain_1f_law {args : Array Value} (ha : VAs (fun _ => none) [ai (Int.ofNat 1), ab false] args.toList) (w : World) (hT : Tab w) :
    Calls Tryz.prog 8 args w fun e w' => Below w.heap.size w w' ∧ e = .returned (.bool true) := ModrefChain_1f_h5.law ModrefChain_1f_run ha w hT
end Go.Proofs.YtjjfahgdmaikpaaGreatDoor
