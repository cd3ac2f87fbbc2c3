/- Tables of calls, and a run that uses them. -/
import Derived.Test.YteajpblmbmncdaaGreatDoorLn
namespace Go.Proofs.YteajpblmbmncdaaGreatDoor
open Go Go.RowKit Ev
set_option maxRecDepth 100000
set_option linter.unusedVariables false
private noncomputable abbrev i (n : Nat) : CV := .int .i64 (.ofNat n)
private noncomputable abbrev o (b a n : Nat) : CV := .slice b a n (.opn 0)
private noncomputable abbrev f (b a n : Nat) : CV := .slice b a n (.fix n)
private noncomputable abbrev e (k t : Nat) : Nat × BK := (k, ⟨[.snil], t, 0, none⟩)
private noncomputable abbrev l0 : Bls := [(1, ⟨[i 0, i 0, i 0, i 0, i 1, i 0], 69, 0, none⟩),
(2, ⟨[f 1 0 3], 47, 0, none⟩),
(4, ⟨[i 1, i 0], 69, 0, none⟩),
(5, ⟨[i 0, i 0], 69, 0, none⟩),
(7, ⟨[i 1, i 0], 69, 0, none⟩),
(9, ⟨[.snil, i 0, i 0, f 4 0 1, i 0, i 0, f 5 0 1, i 0, i 0, f 7 0 1, i 1, i 0], 72, 0, none⟩),
(10, ⟨[i 0], 3, 0, none⟩),
(11, ⟨[f 10 0 1], 74, 0, none⟩),
(12, ⟨[f 2 0 1, f 9 0 4, f 11 0 1, .snil, o 38 0 2, i 0], 57, 0, none⟩),
(20, ⟨[i 0, i 0, i 1, i 0], 69, 2, none⟩),
(21, ⟨[o 30 0 3, i 3, i 0, i 0, i 0], 46, 0, none⟩),
(27, ⟨[i 1], 3, 0, none⟩),
(30, ⟨[i 1, i 0, i 0, i 0, i 1, .snil, i 5, i 1, i 0, i 0, i 0, .snil, i 12, i 0, i 0, i 0, i 1, f 27 0 1], 29, 6, none⟩),
(35, ⟨[i 1, i 0, i 0, i 0], 69, 2, none⟩),
(36, ⟨[o 41 0 1, i 3, i 1, i 0, i 0], 46, 0, none⟩),
(38, ⟨[i 0, o 20 0 2, f 21 0 1, i 1, o 35 0 2, f 36 0 1], 50, 3, none⟩),
(41, ⟨[i 7, i 1, i 0, i 0, i 0, .snil], 29, 6, none⟩)]
private noncomputable abbrev l1 : Bls := [(42, ⟨[o 62 0 2, o 66 0 2, o 101 0 1, o 90 0 1, o 92 0 1, i 9], 230, 0, none⟩),
(48, ⟨[i 0, i 1], 3, 1, none⟩),
(60, ⟨[i 3, i 4], 3, 1, none⟩),
(62, ⟨[o 48 0 2, o 60 0 2], 27, 1, none⟩),
(66, ⟨[i 2, i 5], 3, 1, none⟩),
(90, ⟨[i 1], 3, 1, none⟩),
(92, ⟨[i 0], 3, 1, none⟩),
(99, ⟨[i 6, i 7, i 8], 3, 1, none⟩),
(101, ⟨[o 99 0 3], 27, 1, none⟩),
(122, ⟨[o 140 0 9], 233, 0, none⟩),
(140, ⟨[i 0, i 1, i 2, i 3, i 4, i 5, i 6, i 7, i 8], 3, 1, none⟩),
(141, ⟨[.snil, .snil, .snil, .snil, .snil, .snil, .snil, .snil, .snil], 238, 0, none⟩),
(142, ⟨[o 229 0 1], 139, 0, none⟩),
(143, ⟨[], 0, 0, some (.map [(0, .agg [i 2, i 1], .c (.bool true))] 1)⟩),
(144, ⟨[], 0, 0, some (.map [] 2)⟩),
(145, ⟨[.snil, o 383 0 0, .map 144, i 2], 237, 0, none⟩),
(146, ⟨[.ptr 12 0, .ptr 42 0, .ptr 122 0, o 221 0 9, o 224 0 9, o 227 0 9, f 141 0 9, .ptr 142 0, .map 143, .ptr 145 0], 145, 0, none⟩),
e 147 139,
e 150 139,
e 153 139,
(156, ⟨[o 373 0 1], 139, 0, none⟩),
(162, ⟨[o 379 0 1], 139, 0, none⟩),
e 165 139,
e 168 139,
e 171 139,
(174, ⟨[o 381 0 1], 139, 0, none⟩),
e 180 139,
e 183 139,
e 186 139,
e 189 139,
e 192 139,
e 195 139,
e 198 139,
e 201 139,
e 204 139,
e 207 139,
e 210 139,
e 213 139,
e 216 139,
e 219 139,
(221, ⟨[.ptr 147 0, .ptr 156 0, .ptr 165 0, .ptr 174 0, .ptr 183 0, .ptr 192 0, .ptr 201 0, .ptr 210 0, .ptr 219 0], 136, 1, none⟩),
e 222 139,
(224, ⟨[.ptr 150 0, .ptr 680 0, .ptr 168 0, .ptr 688 0, .ptr 186 0, .ptr 195 0, .ptr 204 0, .ptr 213 0, .ptr 222 0], 136, 1, none⟩),
e 225 139,
(227, ⟨[.ptr 153 0, .ptr 162 0, .ptr 171 0, .ptr 180 0, .ptr 189 0, .ptr 198 0, .ptr 207 0, .ptr 216 0, .ptr 225 0], 136, 1, none⟩),
(229, ⟨[.int .u64 (.ofNat 3)], 224, 1, none⟩),
(373, ⟨[.int .u64 (.ofNat 1)], 224, 1, none⟩),
(379, ⟨[.int .u64 (.ofNat 8)], 224, 1, none⟩),
(381, ⟨[.int .u64 (.ofNat 1)], 224, 1, none⟩),
(383, ⟨[i 0, i 0], 3, 1, none⟩),
(679, ⟨[.int .u64 (.ofNat 1)], 224, 1, none⟩),
(680, ⟨[o 679 0 1], 139, 0, none⟩),
(687, ⟨[.int .u64 (.ofNat 1)], 224, 1, none⟩),
(688, ⟨[o 687 0 1], 139, 0, none⟩)]
private noncomputable abbrev l2 : Bls := [(1, ⟨[i 0, i 0, i 0, i 0, i 1, i 0], 69, 0, none⟩),
(2, ⟨[f 1 0 3], 47, 0, none⟩),
(4, ⟨[i 1, i 0], 69, 0, none⟩),
(5, ⟨[i 0, i 0], 69, 0, none⟩),
(7, ⟨[i 1, i 0], 69, 0, none⟩),
(9, ⟨[.snil, i 0, i 0, f 4 0 1, i 0, i 0, f 5 0 1, i 0, i 0, f 7 0 1, i 1, i 0], 72, 0, none⟩),
(10, ⟨[i 0], 3, 0, none⟩),
(11, ⟨[f 10 0 1], 74, 0, none⟩),
(12, ⟨[f 2 0 1, f 9 0 4, f 11 0 1, .snil, o 38 0 2, i 0], 57, 0, none⟩),
(20, ⟨[i 0, i 0, i 1, i 0], 69, 2, none⟩),
(21, ⟨[o 30 0 3, i 3, i 0, i 0, i 0], 46, 0, none⟩),
(27, ⟨[i 1], 3, 0, none⟩),
(30, ⟨[i 1, i 0, i 0, i 0, i 1, .snil, i 5, i 1, i 0, i 0, i 0, .snil, i 12, i 0, i 0, i 0, i 1, f 27 0 1], 29, 6, none⟩),
(35, ⟨[i 1, i 0, i 0, i 0], 69, 2, none⟩),
(36, ⟨[o 41 0 1, i 3, i 1, i 0, i 0], 46, 0, none⟩),
(38, ⟨[i 0, o 20 0 2, f 21 0 1, i 1, o 35 0 2, f 36 0 1], 50, 3, none⟩),
(41, ⟨[i 7, i 1, i 0, i 0, i 0, .snil], 29, 6, none⟩),
(42, ⟨[o 62 0 2, o 66 0 2, o 101 0 1, o 90 0 1, o 92 0 1, i 9], 230, 0, none⟩),
(48, ⟨[i 0, i 1], 3, 1, none⟩),
(60, ⟨[i 3, i 4], 3, 1, none⟩),
(62, ⟨[o 48 0 2, o 60 0 2], 27, 1, none⟩),
(66, ⟨[i 2, i 5], 3, 1, none⟩),
(90, ⟨[i 1], 3, 1, none⟩),
(92, ⟨[i 0], 3, 1, none⟩),
(99, ⟨[i 6, i 7, i 8], 3, 1, none⟩),
(101, ⟨[o 99 0 3], 27, 1, none⟩),
(122, ⟨[o 140 0 9], 233, 0, none⟩),
(140, ⟨[i 0, i 1, i 2, i 3, i 4, i 5, i 6, i 7, i 8], 3, 1, none⟩),
(141, ⟨[.snil, .snil, .snil, .snil, .snil, .snil, .snil, .snil, .snil], 238, 0, none⟩),
(142, ⟨[o 229 0 1], 139, 0, none⟩),
(143, ⟨[], 0, 0, some (.map [(0, .agg [i 2, i 1], .c (.bool true))] 1)⟩),
(144, ⟨[], 0, 0, some (.map [] 2)⟩),
(145, ⟨[.snil, o 383 0 0, .map 144, i 2], 237, 0, none⟩),
(146, ⟨[.ptr 12 0, .ptr 42 0, .ptr 122 0, o 221 0 9, o 224 0 9, o 227 0 9, f 141 0 9, .ptr 142 0, .map 143, .ptr 145 0], 145, 0, none⟩),
e 147 139,
e 150 139,
e 153 139,
(156, ⟨[o 373 0 1], 139, 0, none⟩),
(162, ⟨[o 379 0 1], 139, 0, none⟩),
e 165 139,
e 168 139,
e 171 139,
(174, ⟨[o 381 0 1], 139, 0, none⟩),
e 180 139,
e 183 139,
e 186 139,
e 189 139,
e 192 139,
e 195 139,
e 198 139,
e 201 139,
e 204 139,
e 207 139,
e 210 139,
e 213 139,
e 216 139,
e 219 139,
(221, ⟨[.ptr 147 0, .ptr 156 0, .ptr 165 0, .ptr 174 0, .ptr 183 0, .ptr 192 0, .ptr 201 0, .ptr 210 0, .ptr 219 0], 136, 1, none⟩),
e 222 139,
(224, ⟨[.ptr 150 0, .ptr 680 0, .ptr 168 0, .ptr 688 0, .ptr 186 0, .ptr 195 0, .ptr 204 0, .ptr 213 0, .ptr 222 0], 136, 1, none⟩),
e 225 139,
(227, ⟨[.ptr 153 0, .ptr 162 0, .ptr 171 0, .ptr 180 0, .ptr 189 0, .ptr 198 0, .ptr 207 0, .ptr 216 0, .ptr 225 0], 136, 1, none⟩),
(229, ⟨[.int .u64 (.ofNat 3)], 224, 1, none⟩),
(373, ⟨[.int .u64 (.ofNat 1)], 224, 1, none⟩),
(379, ⟨[.int .u64 (.ofNat 8)], 224, 1, none⟩),
(381, ⟨[.int .u64 (.ofNat 1)], 224, 1, none⟩),
(383, ⟨[i 0, i 0], 3, 1, none⟩),
(679, ⟨[.int .u64 (.ofNat 1)], 224, 1, none⟩),
(680, ⟨[o 679 0 1], 139, 0, none⟩),
(687, ⟨[.int .u64 (.ofNat 1)], 224, 1, none⟩),
(688, ⟨[o 687 0 1], 139, 0, none⟩)]
private noncomputable abbrev l3 : Bls := [(889, ⟨[], 0, 0, some (.map [(0, .agg [i 4, i 0, i 0, i 1, i 0], .c (o 1356 0 1)), (1, .agg [i 4, i 0, i 0, i 1, i 1], .c (o 1371 0 1)), (2, .agg [i 4, i 0, i 0, i 1, i 2], .c (o 1386 0 1)), (3, .agg [i 1, i 1, i 0, i 0, i 0], .c (o 1418 0 1)), (4, .agg [i 5, i 1, i 0, i 0, i 0], .c (o 1423 0 1)), (5, .agg [i 3, i 1, i 0, i 1, i 0], .c (o 1480 0 2)), (6, .agg [i 1, i 2, i 0, i 0, i 0], .c (o 1463 0 1)), (7, .agg [i 3, i 1, i 0, i 1, i 1], .c (o 1497 0 1)), (8, .agg [i 3, i 1, i 0, i 1, i 2], .c (o 1514 0 1)), (9, .agg [i 4, i 1, i 0, i 1, i 0], .c (o 1582 0 2)), (10, .agg [i 1, i 4, i 0, i 0, i 0], .c (o 1567 0 1))] 11)⟩),
(890, ⟨[.map 889, .md 1 (.ofNat 0) true], 155, 0, none⟩),
(1356, ⟨[i 3, i 1, i 0, i 1, i 0], 116, 5, none⟩),
(1371, ⟨[i 3, i 1, i 0, i 1, i 1], 116, 5, none⟩),
(1386, ⟨[i 3, i 1, i 0, i 1, i 2], 116, 5, none⟩),
(1418, ⟨[i 2, i 1, i 0, i 0, i 0], 116, 5, none⟩),
(1423, ⟨[i 1, i 2, i 0, i 0, i 0], 116, 5, none⟩),
(1463, ⟨[i 5, i 0, i 0, i 0, i 0], 116, 5, none⟩),
(1480, ⟨[i 4, i 1, i 0, i 1, i 0, i 6, i 0, i 0, i 1, i 0], 116, 5, none⟩),
(1497, ⟨[i 6, i 0, i 0, i 1, i 1], 116, 5, none⟩),
(1514, ⟨[i 6, i 0, i 0, i 1, i 2], 116, 5, none⟩),
(1567, ⟨[i 5, i 1, i 0, i 0, i 0], 116, 5, none⟩),
(1582, ⟨[i 1, i 4, i 0, i 0, i 0, i 6, i 1, i 0, i 1, i 0], 116, 5, none⟩)]
private noncomputable def m0 : MM := ⟨[48], l0, 42, [⟨48, 0, [.v (.c (.ptr 12 0))], .v (.c (.nili))⟩]⟩
private theorem m0_k : H0.tbl m0 = true := by kernel_rfl
private noncomputable def h1 : HK := H0.memo m0 m0_k
private noncomputable def m1 : MM := ⟨[155], [(12, ⟨[f 2 0 1, f 9 0 4, f 11 0 1, .snil, o 38 0 2, i 0], 57, 0, none⟩),
(21, ⟨[o 30 0 3, i 3, i 0, i 0, i 0], 46, 0, none⟩),
(36, ⟨[o 41 0 1, i 3, i 1, i 0, i 0], 46, 0, none⟩),
(38, ⟨[i 0, o 20 0 2, f 21 0 1, i 1, o 35 0 2, f 36 0 1], 50, 3, none⟩)], 81, [⟨155, 0, [.v (.c (.ptr 12 0)), .v (.c (i 0))], .tup [.agg [i 0, i 0, i 0], .c (.bool true)]⟩,
⟨155, 1, [.v (.c (.ptr 12 0)), .v (.c (i 1))], .tup [.agg [i 0, i 0, i 1], .c (.bool true)]⟩,
⟨155, 2, [.v (.c (.ptr 12 0)), .v (.c (i 2))], .tup [.agg [i 0, i 0, i 2], .c (.bool true)]⟩,
⟨155, 3, [.v (.c (.ptr 12 0)), .v (.c (i 3))], .tup [.agg [i 0, i 0, i 3], .c (.bool true)]⟩,
⟨155, 4, [.v (.c (.ptr 12 0)), .v (.c (i 4))], .tup [.agg [i 1, i 0, i 0], .c (.bool true)]⟩,
⟨155, 5, [.v (.c (.ptr 12 0)), .v (.c (i 5))], .tup [.agg [i 1, i 0, i 1], .c (.bool true)]⟩]⟩
private theorem m1_k : h1.tbl m1 = true := by kernel_rfl
private noncomputable def h2 : HK := h1.memo m1 m1_k
private noncomputable def s1 : RE := ⟨76, [.v (.c (.ptr 12 0))], 42, .v (.c (.ptr 42 0)), [(42, ⟨[o 62 0 2, o 66 0 2, o 101 0 1, o 90 0 1, o 92 0 1, i 9], 230, 0, none⟩),
(48, ⟨[i 0, i 1], 3, 1, none⟩),
(60, ⟨[i 3, i 4], 3, 1, none⟩),
(62, ⟨[o 48 0 2, o 60 0 2], 27, 1, none⟩),
(66, ⟨[i 2, i 5], 3, 1, none⟩),
(90, ⟨[i 1], 3, 1, none⟩),
(92, ⟨[i 0], 3, 1, none⟩),
(99, ⟨[i 6, i 7, i 8], 3, 1, none⟩),
(101, ⟨[o 99 0 3], 27, 1, none⟩)], 122⟩
private theorem s1_k : h2.srp l0 s1 = true := by kernel_rfl
private noncomputable def h3 : HK := h2.srep _ s1 s1_k
private noncomputable def s2 : RE := ⟨49, [.v (.c (.ptr 12 0)), .v (.c (.snil))], 42, .v (.c (.ptr 146 0)), l1, 689⟩
private theorem s2_k : h3.rep l0 s2 = true := by kernel_rfl
private noncomputable def h4 : HK := h3.repl _ s2 s2_k
private noncomputable def s3 : RE := ⟨151, [.v (.c (.ptr 12 0)), .v (.c (.ptr 146 0)), .v (.c (i 2))], 789, .v (.c (.snil)), [], 850⟩
private theorem s3_k : h4.srp l2 s3 = true := by kernel_rfl
private noncomputable def h5 : HK := h4.srep _ s3 s3_k
private noncomputable def s4 : RE := ⟨85, [.v (.c (.ptr 12 0)), .v (.c (.ptr 146 0)), .v (.c (i 0))], 892, .v (.c (o 1049 0 3)), [(1049, ⟨[i 1, i 0, i 1, i 1, i 1, i 2, i 0, i 0], 114, 2, none⟩)], 1065⟩
private theorem s4_k : h5.srp l2 s4 = true := by kernel_rfl
private noncomputable def h6 : HK := h5.srep _ s4 s4_k
private noncomputable def s5 : RE := ⟨86, [.v (.c (.ptr 12 0)), .v (.c (.ptr 146 0)), .v (.c (i 0))], 1067, .v (.c (o 1120 0 3)), [(1120, ⟨[i 1, i 0, i 1, i 1, i 1, i 2], 114, 2, none⟩)], 1147⟩
private theorem s5_k : h6.srp l2 s5 = true := by kernel_rfl
private noncomputable def h7 : HK := h6.srep _ s5 s5_k
private noncomputable def s6 : RE := ⟨85, [.v (.c (.ptr 12 0)), .v (.c (.ptr 146 0)), .v (.c (i 1))], 1149, .v (.c (o 1259 0 1)), [(1259, ⟨[i 1, i 0], 114, 2, none⟩)], 1260⟩
private theorem s6_k : h7.srp l2 s6 = true := by kernel_rfl
private noncomputable def h8 : HK := h7.srep _ s6 s6_k
private noncomputable def s7 : RE := ⟨86, [.v (.c (.ptr 12 0)), .v (.c (.ptr 146 0)), .v (.c (i 1))], 1262, .v (.c (.snil)), [], 1312⟩
private theorem s7_k : h8.srp l2 s7 = true := by kernel_rfl
private noncomputable def h9 : HK := h8.srep _ s7 s7_k
private noncomputable def s8 : RE := ⟨50, [.v (.c (.ptr 12 0)), .v (.c (.ptr 146 0))], 689, .v (.c (.ptr 890 0)), l3, 1584⟩
private theorem s8_k : h9.rep l2 s8 = true := by kernel_rfl
private noncomputable def h10 : HK := h9.repl _ s8 s8_k
theorem TopNilParam_0_f_run : isBool true (runW h10.K 12 [mi 8 0, ab false] s0) = true := by kernel_rfl
theorem TopNilParam_0_f_law {args : Array Value} (ha : VAs (fun _ => none) [mi 8 0, ab false] args.toList) (w : World) (hT : Tab w) :
    Calls Tryz.prog 12 args w fun e w' => Below w.heap.size w w' ∧ e = .returned (.bool true) := h10.law TopNilParam_0_f_run ha w hT
end Go.Proofs.YteajpblmbmncdaaGreatDoor
