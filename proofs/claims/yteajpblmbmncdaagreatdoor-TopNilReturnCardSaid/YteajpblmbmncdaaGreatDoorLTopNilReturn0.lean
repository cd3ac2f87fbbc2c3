/- Tables of calls, and a run that uses them. -/
import Derived.Test.YteajpblmbmncdaaGreatDoorLn
namespace Go.Proofs.YteajpblmbmncdaaGreatDoor
open Go Go.RowKit Ev
set_option maxRecDepth 100000
set_option linter.unusedVariables false
private noncomputable abbrev i (n : Nat) : CV := .int .i64 (.ofNat n)
private noncomputable abbrev o (b a n : Nat) : CV := .slice b a n (.opn 0)
private noncomputable abbrev f (b a n : Nat) : CV := .slice b a n (.fix n)
private noncomputable abbrev e (k t : Nat) : Nat × BK := (k, ⟨[.snil], t, 0, none⟩)
private noncomputable abbrev l0 : Bls := [(1, ⟨[i 0, i 0, i 0, i 0, i 1, i 0], 69, 0, none⟩),
(2, ⟨[f 1 0 3], 47, 0, none⟩),
(4, ⟨[i 1, i 0], 69, 0, none⟩),
(5, ⟨[i 0, i 0], 69, 0, none⟩),
(7, ⟨[i 1, i 0], 69, 0, none⟩),
(9, ⟨[.snil, i 0, i 0, f 4 0 1, i 0, i 0, f 5 0 1, i 0, i 0, f 7 0 1, i 1, i 0], 72, 0, none⟩),
(10, ⟨[i 0], 3, 0, none⟩),
(11, ⟨[f 10 0 1], 74, 0, none⟩),
(12, ⟨[f 2 0 1, f 9 0 4, f 11 0 1, .snil, o 42 0 2, i 0], 57, 0, none⟩),
(23, ⟨[i 0, i 0, i 1, i 0, i 1, i 0], 69, 2, none⟩),
(24, ⟨[o 33 0 4, i 3, i 0, i 0, i 0], 46, 0, none⟩),
(29, ⟨[i 1], 3, 0, none⟩),
(33, ⟨[i 1, i 0, i 0, i 0, i 1, .snil, i 5, i 1, i 0, i 0, i 0, .snil, i 12, i 2, i 0, i 0, i 1, f 29 0 1, i 8, i 0, i 2, i 0, i 0, .snil], 29, 6, none⟩),
(39, ⟨[i 1, i 0, i 1, i 0], 69, 2, none⟩),
(40, ⟨[o 45 0 1, i 3, i 1, i 0, i 0], 46, 0, none⟩),
(42, ⟨[i 0, o 23 0 3, f 24 0 1, i 3, o 39 0 2, f 40 0 1], 50, 3, none⟩),
(45, ⟨[i 4, i 1, i 0, i 0, i 0, .snil], 29, 6, none⟩)]
private noncomputable abbrev l1 : Bls := [(48, ⟨[o 70 0 2, o 74 0 2, o 111 0 1, o 100 0 1, o 102 0 1, i 10], 230, 0, none⟩),
(56, ⟨[i 0, i 1, i 2], 3, 1, none⟩),
(68, ⟨[i 4, i 5], 3, 1, none⟩),
(70, ⟨[o 56 0 3, o 68 0 2], 27, 1, none⟩),
(74, ⟨[i 3, i 6], 3, 1, none⟩),
(100, ⟨[i 1], 3, 1, none⟩),
(102, ⟨[i 0], 3, 1, none⟩),
(109, ⟨[i 7, i 8, i 9], 3, 1, none⟩),
(111, ⟨[o 109 0 3], 27, 1, none⟩),
(137, ⟨[o 157 0 10], 233, 0, none⟩),
(157, ⟨[i 0, i 1, i 2, i 3, i 4, i 5, i 6, i 7, i 8, i 9], 3, 1, none⟩),
(158, ⟨[.snil, .snil, .snil, .snil, .snil, .snil, .snil, .snil, .snil, .snil], 238, 0, none⟩),
(159, ⟨[o 255 0 1], 139, 0, none⟩),
(160, ⟨[], 0, 0, some (.map [(0, .agg [i 2, i 1], .c (.bool true))] 1)⟩),
(161, ⟨[], 0, 0, some (.map [] 2)⟩),
(162, ⟨[.snil, o 430 0 0, .map 161, i 2], 237, 0, none⟩),
(163, ⟨[.ptr 12 0, .ptr 48 0, .ptr 137 0, o 247 0 10, o 250 0 10, o 253 0 10, f 158 0 10, .ptr 159 0, .map 160, .ptr 162 0], 145, 0, none⟩),
e 164 139,
e 167 139,
e 170 139,
(173, ⟨[o 420 0 1], 139, 0, none⟩),
(179, ⟨[o 426 0 1], 139, 0, none⟩),
e 182 139,
e 185 139,
e 188 139,
e 191 139,
e 194 139,
e 197 139,
(200, ⟨[o 428 0 1], 139, 0, none⟩),
e 206 139,
e 209 139,
e 212 139,
(215, ⟨[o 701 0 1], 139, 0, none⟩),
e 218 139,
e 221 139,
(224, ⟨[o 434 0 1], 139, 0, none⟩),
e 227 139,
e 230 139,
e 233 139,
e 236 139,
e 239 139,
e 242 139,
e 245 139,
(247, ⟨[.ptr 164 0, .ptr 173 0, .ptr 182 0, .ptr 191 0, .ptr 200 0, .ptr 209 0, .ptr 218 0, .ptr 227 0, .ptr 236 0, .ptr 245 0], 136, 1, none⟩),
e 248 139,
(250, ⟨[.ptr 167 0, .ptr 776 0, .ptr 185 0, .ptr 194 0, .ptr 784 0, .ptr 212 0, .ptr 221 0, .ptr 230 0, .ptr 239 0, .ptr 248 0], 136, 1, none⟩),
e 251 139,
(253, ⟨[.ptr 170 0, .ptr 179 0, .ptr 188 0, .ptr 197 0, .ptr 206 0, .ptr 215 0, .ptr 224 0, .ptr 233 0, .ptr 242 0, .ptr 251 0], 136, 1, none⟩),
(255, ⟨[.int .u64 (.ofNat 3)], 224, 1, none⟩),
(420, ⟨[.int .u64 (.ofNat 1)], 224, 1, none⟩),
(426, ⟨[.int .u64 (.ofNat 16)], 224, 1, none⟩),
(428, ⟨[.int .u64 (.ofNat 1)], 224, 1, none⟩),
(430, ⟨[i 0, i 0], 3, 1, none⟩),
(434, ⟨[.int .u64 (.ofNat 4)], 224, 1, none⟩),
(701, ⟨[.int .u64 (.ofNat 64)], 224, 1, none⟩),
(775, ⟨[.int .u64 (.ofNat 1)], 224, 1, none⟩),
(776, ⟨[o 775 0 1], 139, 0, none⟩),
(783, ⟨[.int .u64 (.ofNat 1)], 224, 1, none⟩),
(784, ⟨[o 783 0 1], 139, 0, none⟩)]
private noncomputable abbrev l2 : Bls := [(1, ⟨[i 0, i 0, i 0, i 0, i 1, i 0], 69, 0, none⟩),
(2, ⟨[f 1 0 3], 47, 0, none⟩),
(4, ⟨[i 1, i 0], 69, 0, none⟩),
(5, ⟨[i 0, i 0], 69, 0, none⟩),
(7, ⟨[i 1, i 0], 69, 0, none⟩),
(9, ⟨[.snil, i 0, i 0, f 4 0 1, i 0, i 0, f 5 0 1, i 0, i 0, f 7 0 1, i 1, i 0], 72, 0, none⟩),
(10, ⟨[i 0], 3, 0, none⟩),
(11, ⟨[f 10 0 1], 74, 0, none⟩),
(12, ⟨[f 2 0 1, f 9 0 4, f 11 0 1, .snil, o 42 0 2, i 0], 57, 0, none⟩),
(23, ⟨[i 0, i 0, i 1, i 0, i 1, i 0], 69, 2, none⟩),
(24, ⟨[o 33 0 4, i 3, i 0, i 0, i 0], 46, 0, none⟩),
(29, ⟨[i 1], 3, 0, none⟩),
(33, ⟨[i 1, i 0, i 0, i 0, i 1, .snil, i 5, i 1, i 0, i 0, i 0, .snil, i 12, i 2, i 0, i 0, i 1, f 29 0 1, i 8, i 0, i 2, i 0, i 0, .snil], 29, 6, none⟩),
(39, ⟨[i 1, i 0, i 1, i 0], 69, 2, none⟩),
(40, ⟨[o 45 0 1, i 3, i 1, i 0, i 0], 46, 0, none⟩),
(42, ⟨[i 0, o 23 0 3, f 24 0 1, i 3, o 39 0 2, f 40 0 1], 50, 3, none⟩),
(45, ⟨[i 4, i 1, i 0, i 0, i 0, .snil], 29, 6, none⟩),
(48, ⟨[o 70 0 2, o 74 0 2, o 111 0 1, o 100 0 1, o 102 0 1, i 10], 230, 0, none⟩),
(56, ⟨[i 0, i 1, i 2], 3, 1, none⟩),
(68, ⟨[i 4, i 5], 3, 1, none⟩),
(70, ⟨[o 56 0 3, o 68 0 2], 27, 1, none⟩),
(74, ⟨[i 3, i 6], 3, 1, none⟩),
(100, ⟨[i 1], 3, 1, none⟩),
(102, ⟨[i 0], 3, 1, none⟩),
(109, ⟨[i 7, i 8, i 9], 3, 1, none⟩),
(111, ⟨[o 109 0 3], 27, 1, none⟩),
(137, ⟨[o 157 0 10], 233, 0, none⟩),
(157, ⟨[i 0, i 1, i 2, i 3, i 4, i 5, i 6, i 7, i 8, i 9], 3, 1, none⟩),
(158, ⟨[.snil, .snil, .snil, .snil, .snil, .snil, .snil, .snil, .snil, .snil], 238, 0, none⟩),
(159, ⟨[o 255 0 1], 139, 0, none⟩),
(160, ⟨[], 0, 0, some (.map [(0, .agg [i 2, i 1], .c (.bool true))] 1)⟩),
(161, ⟨[], 0, 0, some (.map [] 2)⟩),
(162, ⟨[.snil, o 430 0 0, .map 161, i 2], 237, 0, none⟩),
(163, ⟨[.ptr 12 0, .ptr 48 0, .ptr 137 0, o 247 0 10, o 250 0 10, o 253 0 10, f 158 0 10, .ptr 159 0, .map 160, .ptr 162 0], 145, 0, none⟩),
e 164 139,
e 167 139,
e 170 139,
(173, ⟨[o 420 0 1], 139, 0, none⟩),
(179, ⟨[o 426 0 1], 139, 0, none⟩),
e 182 139,
e 185 139,
e 188 139,
e 191 139,
e 194 139,
e 197 139,
(200, ⟨[o 428 0 1], 139, 0, none⟩),
e 206 139,
e 209 139,
e 212 139,
(215, ⟨[o 701 0 1], 139, 0, none⟩),
e 218 139,
e 221 139,
(224, ⟨[o 434 0 1], 139, 0, none⟩),
e 227 139,
e 230 139,
e 233 139,
e 236 139,
e 239 139,
e 242 139,
e 245 139,
(247, ⟨[.ptr 164 0, .ptr 173 0, .ptr 182 0, .ptr 191 0, .ptr 200 0, .ptr 209 0, .ptr 218 0, .ptr 227 0, .ptr 236 0, .ptr 245 0], 136, 1, none⟩),
e 248 139,
(250, ⟨[.ptr 167 0, .ptr 776 0, .ptr 185 0, .ptr 194 0, .ptr 784 0, .ptr 212 0, .ptr 221 0, .ptr 230 0, .ptr 239 0, .ptr 248 0], 136, 1, none⟩),
e 251 139,
(253, ⟨[.ptr 170 0, .ptr 179 0, .ptr 188 0, .ptr 197 0, .ptr 206 0, .ptr 215 0, .ptr 224 0, .ptr 233 0, .ptr 242 0, .ptr 251 0], 136, 1, none⟩),
(255, ⟨[.int .u64 (.ofNat 3)], 224, 1, none⟩),
(420, ⟨[.int .u64 (.ofNat 1)], 224, 1, none⟩),
(426, ⟨[.int .u64 (.ofNat 16)], 224, 1, none⟩),
(428, ⟨[.int .u64 (.ofNat 1)], 224, 1, none⟩),
(430, ⟨[i 0, i 0], 3, 1, none⟩),
(434, ⟨[.int .u64 (.ofNat 4)], 224, 1, none⟩),
(701, ⟨[.int .u64 (.ofNat 64)], 224, 1, none⟩),
(775, ⟨[.int .u64 (.ofNat 1)], 224, 1, none⟩),
(776, ⟨[o 775 0 1], 139, 0, none⟩),
(783, ⟨[.int .u64 (.ofNat 1)], 224, 1, none⟩),
(784, ⟨[o 783 0 1], 139, 0, none⟩)]
private noncomputable abbrev l3 : Bls := [(1014, ⟨[], 0, 0, some (.map [(0, .agg [i 4, i 0, i 0, i 1, i 0], .c (o 1492 0 1)), (1, .agg [i 4, i 0, i 0, i 1, i 1], .c (o 1507 0 1)), (2, .agg [i 4, i 0, i 0, i 1, i 2], .c (o 1522 0 1)), (3, .agg [i 1, i 1, i 0, i 0, i 0], .c (o 1554 0 1)), (4, .agg [i 5, i 1, i 0, i 0, i 0], .c (o 1559 0 1)), (5, .agg [i 1, i 0, i 0, i 0, i 0], .c (o 1618 0 1)), (6, .agg [i 3, i 1, i 0, i 1, i 0], .c (o 1637 0 1)), (7, .agg [i 3, i 1, i 0, i 1, i 1], .c (o 1656 0 1)), (8, .agg [i 3, i 1, i 0, i 1, i 2], .c (o 1675 0 1)), (9, .agg [i 1, i 5, i 0, i 0, i 0], .c (o 1706 0 1))] 10)⟩),
(1015, ⟨[.map 1014, .md 1 (.ofNat 0) true], 155, 0, none⟩),
(1492, ⟨[i 3, i 1, i 0, i 1, i 0], 116, 5, none⟩),
(1507, ⟨[i 3, i 1, i 0, i 1, i 1], 116, 5, none⟩),
(1522, ⟨[i 3, i 1, i 0, i 1, i 2], 116, 5, none⟩),
(1554, ⟨[i 2, i 1, i 0, i 0, i 0], 116, 5, none⟩),
(1559, ⟨[i 1, i 2, i 0, i 0, i 0], 116, 5, none⟩),
(1618, ⟨[i 5, i 0, i 0, i 0, i 0], 116, 5, none⟩),
(1637, ⟨[i 6, i 0, i 0, i 1, i 0], 116, 5, none⟩),
(1656, ⟨[i 6, i 0, i 0, i 1, i 1], 116, 5, none⟩),
(1675, ⟨[i 6, i 0, i 0, i 1, i 2], 116, 5, none⟩),
(1706, ⟨[i 5, i 1, i 0, i 0, i 0], 116, 5, none⟩)]
private noncomputable def m0 : MM := ⟨[48], l0, 48, [⟨48, 0, [.v (.c (.ptr 12 0))], .v (.c (.nili))⟩]⟩
private theorem m0_k : H0.tbl m0 = true := by kernel_rfl
private noncomputable def h1 : HK := H0.memo m0 m0_k
private noncomputable def m1 : MM := ⟨[155], [(12, ⟨[f 2 0 1, f 9 0 4, f 11 0 1, .snil, o 42 0 2, i 0], 57, 0, none⟩),
(24, ⟨[o 33 0 4, i 3, i 0, i 0, i 0], 46, 0, none⟩),
(40, ⟨[o 45 0 1, i 3, i 1, i 0, i 0], 46, 0, none⟩),
(42, ⟨[i 0, o 23 0 3, f 24 0 1, i 3, o 39 0 2, f 40 0 1], 50, 3, none⟩)], 91, [⟨155, 0, [.v (.c (.ptr 12 0)), .v (.c (i 0))], .tup [.agg [i 0, i 0, i 0], .c (.bool true)]⟩,
⟨155, 1, [.v (.c (.ptr 12 0)), .v (.c (i 1))], .tup [.agg [i 0, i 0, i 1], .c (.bool true)]⟩,
⟨155, 2, [.v (.c (.ptr 12 0)), .v (.c (i 2))], .tup [.agg [i 0, i 0, i 2], .c (.bool true)]⟩,
⟨155, 3, [.v (.c (.ptr 12 0)), .v (.c (i 3))], .tup [.agg [i 0, i 0, i 3], .c (.bool true)]⟩,
⟨155, 4, [.v (.c (.ptr 12 0)), .v (.c (i 4))], .tup [.agg [i 0, i 0, i 4], .c (.bool true)]⟩,
⟨155, 5, [.v (.c (.ptr 12 0)), .v (.c (i 5))], .tup [.agg [i 1, i 0, i 0], .c (.bool true)]⟩,
⟨155, 6, [.v (.c (.ptr 12 0)), .v (.c (i 6))], .tup [.agg [i 1, i 0, i 1], .c (.bool true)]⟩]⟩
private theorem m1_k : h1.tbl m1 = true := by kernel_rfl
private noncomputable def h2 : HK := h1.memo m1 m1_k
private noncomputable def s1 : RE := ⟨76, [.v (.c (.ptr 12 0))], 48, .v (.c (.ptr 48 0)), [(48, ⟨[o 70 0 2, o 74 0 2, o 111 0 1, o 100 0 1, o 102 0 1, i 10], 230, 0, none⟩),
(56, ⟨[i 0, i 1, i 2], 3, 1, none⟩),
(68, ⟨[i 4, i 5], 3, 1, none⟩),
(70, ⟨[o 56 0 3, o 68 0 2], 27, 1, none⟩),
(74, ⟨[i 3, i 6], 3, 1, none⟩),
(100, ⟨[i 1], 3, 1, none⟩),
(102, ⟨[i 0], 3, 1, none⟩),
(109, ⟨[i 7, i 8, i 9], 3, 1, none⟩),
(111, ⟨[o 109 0 3], 27, 1, none⟩)], 137⟩
private theorem s1_k : h2.srp l0 s1 = true := by kernel_rfl
private noncomputable def h3 : HK := h2.srep _ s1 s1_k
private noncomputable def s2 : RE := ⟨49, [.v (.c (.ptr 12 0)), .v (.c (.snil))], 48, .v (.c (.ptr 163 0)), l1, 785⟩
private theorem s2_k : h3.rep l0 s2 = true := by kernel_rfl
private noncomputable def h4 : HK := h3.repl _ s2 s2_k
private noncomputable def s3 : RE := ⟨151, [.v (.c (.ptr 12 0)), .v (.c (.ptr 163 0)), .v (.c (i 2))], 893, .v (.c (.snil)), [], 957⟩
private theorem s3_k : h4.srp l2 s3 = true := by kernel_rfl
private noncomputable def h5 : HK := h4.srep _ s3 s3_k
private noncomputable def s4 : RE := ⟨85, [.v (.c (.ptr 12 0)), .v (.c (.ptr 163 0)), .v (.c (i 0))], 1017, .v (.c (o 1072 0 3)), [(1072, ⟨[i 1, i 0, i 1, i 1, i 1, i 2], 114, 2, none⟩)], 1189⟩
private theorem s4_k : h5.srp l2 s4 = true := by kernel_rfl
private noncomputable def h6 : HK := h5.srep _ s4 s4_k
private noncomputable def s5 : RE := ⟨86, [.v (.c (.ptr 12 0)), .v (.c (.ptr 163 0)), .v (.c (i 0))], 1191, .v (.c (o 1246 0 3)), [(1246, ⟨[i 1, i 0, i 1, i 1, i 1, i 2], 114, 2, none⟩)], 1283⟩
private theorem s5_k : h6.srp l2 s5 = true := by kernel_rfl
private noncomputable def h7 : HK := h6.srep _ s5 s5_k
private noncomputable def s6 : RE := ⟨85, [.v (.c (.ptr 12 0)), .v (.c (.ptr 163 0)), .v (.c (i 1))], 1285, .v (.c (.snil)), [], 1391⟩
private theorem s6_k : h7.srp l2 s6 = true := by kernel_rfl
private noncomputable def h8 : HK := h7.srep _ s6 s6_k
private noncomputable def s7 : RE := ⟨86, [.v (.c (.ptr 12 0)), .v (.c (.ptr 163 0)), .v (.c (i 1))], 1393, .v (.c (.snil)), [], 1446⟩
private theorem s7_k : h8.srp l2 s7 = true := by kernel_rfl
private noncomputable def h9 : HK := h8.srep _ s7 s7_k
private noncomputable def s8 : RE := ⟨50, [.v (.c (.ptr 12 0)), .v (.c (.ptr 163 0))], 785, .v (.c (.ptr 1015 0)), l3, 1708⟩
private theorem s8_k : h9.rep l2 s8 = true := by kernel_rfl
private noncomputable def h10 : HK := h9.repl _ s8 s8_k
theorem TopNilReturn_0_t_run : isBool true (runW h10.K 13 [mi 8 0, ab true] s0) = true := by kernel_rfl
theorem TopNilReturn_0_t_law {args : Array Value} (ha : VAs (fun _ => none) [mi 8 0, ab true] args.toList) (w : World) (hT : Tab w) :
    Calls Tryz.prog 13 args w fun e w' => Below w.heap.size w w' ∧ e = .returned (.bool true) := h10.law TopNilReturn_0_t_run ha w hT
end Go.Proofs.YteajpblmbmncdaaGreatDoor
