/- Tables of calls, and a run that uses them. -/
import Derived.Test.YteajpblmbmncdaaGreatDoorLn
namespace Go.Proofs.YteajpblmbmncdaaGreatDoor
open Go Go.RowKit Ev
set_option maxRecDepth 100000
set_option linter.unusedVariables false
private noncomputable abbrev i (n : Nat) : CV := .int .i64 (.ofNat n)
private noncomputable abbrev o (b a n : Nat) : CV := .slice b a n (.opn 0)
private noncomputable abbrev f (b a n : Nat) : CV := .slice b a n (.fix n)
private noncomputable abbrev e (k t : Nat) : Nat × BK := (k, ⟨[.snil], t, 0, none⟩)
private noncomputable abbrev l0 : Bls := [(1, ⟨[i 0, i 0, i 0, i 0, i 1, i 0], 69, 0, none⟩),
(2, ⟨[f 1 0 3], 47, 0, none⟩),
(4, ⟨[i 1, i 0], 69, 0, none⟩),
(5, ⟨[i 0, i 0], 69, 0, none⟩),
(7, ⟨[i 1, i 0], 69, 0, none⟩),
(9, ⟨[.snil, i 0, i 0, f 4 0 1, i 0, i 0, f 5 0 1, i 0, i 0, f 7 0 1, i 1, i 0], 72, 0, none⟩),
(10, ⟨[i 0], 3, 0, none⟩),
(11, ⟨[f 10 0 1], 74, 0, none⟩),
(12, ⟨[f 2 0 1, f 9 0 4, f 11 0 1, .snil, o 39 0 2, i 0], 57, 0, none⟩),
(20, ⟨[i 0, i 0, i 1, i 0], 69, 2, none⟩),
(21, ⟨[o 31 0 3, i 3, i 0, i 0, i 0], 46, 0, none⟩),
(28, ⟨[i 1], 3, 0, none⟩),
(31, ⟨[i 1, i 0, i 0, i 0, i 1, .snil, i 4, i 1, i 0, i 0, i 0, .snil, i 12, i 0, i 0, i 0, i 1, f 28 0 1], 29, 6, none⟩),
(36, ⟨[i 1, i 0, i 0, i 0], 69, 2, none⟩),
(37, ⟨[o 42 0 1, i 3, i 1, i 0, i 0], 46, 0, none⟩),
(39, ⟨[i 0, o 20 0 2, f 21 0 1, i 1, o 36 0 2, f 37 0 1], 50, 3, none⟩),
(42, ⟨[i 7, i 1, i 0, i 0, i 0, .snil], 29, 6, none⟩)]
private noncomputable abbrev l1 : Bls := [(58, ⟨[o 78 0 2, o 82 0 2, .snil, .snil, .snil, i 6], 230, 0, none⟩),
(64, ⟨[i 0, i 1], 3, 1, none⟩),
(76, ⟨[i 3, i 4], 3, 1, none⟩),
(78, ⟨[o 64 0 2, o 76 0 2], 27, 1, none⟩),
(82, ⟨[i 2, i 5], 3, 1, none⟩),
(125, ⟨[o 137 0 6], 233, 0, none⟩),
(137, ⟨[i 0, i 1, i 2, i 3, i 4, i 5], 3, 1, none⟩),
(138, ⟨[.snil, .snil, .snil, .snil, .snil, .snil], 238, 0, none⟩),
(139, ⟨[o 199 0 1], 139, 0, none⟩),
(140, ⟨[], 0, 0, some (.map [(0, .agg [i 2, i 1], .c (.bool true))] 1)⟩),
(141, ⟨[], 0, 0, some (.map [] 0)⟩),
(142, ⟨[.snil, .snil, .map 141, i 0], 237, 0, none⟩),
(143, ⟨[.ptr 12 0, .ptr 58 0, .ptr 125 0, o 191 0 6, o 194 0 6, o 197 0 6, f 138 0 6, .ptr 139 0, .map 140, .ptr 142 0], 145, 0, none⟩),
e 144 139,
e 147 139,
e 150 139,
e 153 139,
e 156 139,
(159, ⟨[o 322 0 1], 139, 0, none⟩),
e 162 139,
e 165 139,
e 168 139,
e 171 139,
e 174 139,
e 177 139,
e 180 139,
e 183 139,
e 186 139,
e 189 139,
(191, ⟨[.ptr 144 0, .ptr 153 0, .ptr 162 0, .ptr 171 0, .ptr 180 0, .ptr 189 0], 136, 1, none⟩),
e 192 139,
(194, ⟨[.ptr 147 0, .ptr 156 0, .ptr 165 0, .ptr 174 0, .ptr 183 0, .ptr 192 0], 136, 1, none⟩),
e 195 139,
(197, ⟨[.ptr 150 0, .ptr 159 0, .ptr 168 0, .ptr 177 0, .ptr 186 0, .ptr 195 0], 136, 1, none⟩),
(199, ⟨[.int .u64 (.ofNat 3)], 224, 1, none⟩),
(322, ⟨[.int .u64 (.ofNat 8)], 224, 1, none⟩)]
private noncomputable abbrev l2 : Bls := [(1, ⟨[i 0, i 0, i 0, i 0, i 1, i 0], 69, 0, none⟩),
(2, ⟨[f 1 0 3], 47, 0, none⟩),
(4, ⟨[i 1, i 0], 69, 0, none⟩),
(5, ⟨[i 0, i 0], 69, 0, none⟩),
(7, ⟨[i 1, i 0], 69, 0, none⟩),
(9, ⟨[.snil, i 0, i 0, f 4 0 1, i 0, i 0, f 5 0 1, i 0, i 0, f 7 0 1, i 1, i 0], 72, 0, none⟩),
(10, ⟨[i 0], 3, 0, none⟩),
(11, ⟨[f 10 0 1], 74, 0, none⟩),
(12, ⟨[f 2 0 1, f 9 0 4, f 11 0 1, .snil, o 39 0 2, i 0], 57, 0, none⟩),
(20, ⟨[i 0, i 0, i 1, i 0], 69, 2, none⟩),
(21, ⟨[o 31 0 3, i 3, i 0, i 0, i 0], 46, 0, none⟩),
(28, ⟨[i 1], 3, 0, none⟩),
(31, ⟨[i 1, i 0, i 0, i 0, i 1, .snil, i 4, i 1, i 0, i 0, i 0, .snil, i 12, i 0, i 0, i 0, i 1, f 28 0 1], 29, 6, none⟩),
(36, ⟨[i 1, i 0, i 0, i 0], 69, 2, none⟩),
(37, ⟨[o 42 0 1, i 3, i 1, i 0, i 0], 46, 0, none⟩),
(39, ⟨[i 0, o 20 0 2, f 21 0 1, i 1, o 36 0 2, f 37 0 1], 50, 3, none⟩),
(42, ⟨[i 7, i 1, i 0, i 0, i 0, .snil], 29, 6, none⟩),
(58, ⟨[o 78 0 2, o 82 0 2, .snil, .snil, .snil, i 6], 230, 0, none⟩),
(64, ⟨[i 0, i 1], 3, 1, none⟩),
(76, ⟨[i 3, i 4], 3, 1, none⟩),
(78, ⟨[o 64 0 2, o 76 0 2], 27, 1, none⟩),
(82, ⟨[i 2, i 5], 3, 1, none⟩),
(125, ⟨[o 137 0 6], 233, 0, none⟩),
(137, ⟨[i 0, i 1, i 2, i 3, i 4, i 5], 3, 1, none⟩),
(138, ⟨[.snil, .snil, .snil, .snil, .snil, .snil], 238, 0, none⟩),
(139, ⟨[o 199 0 1], 139, 0, none⟩),
(140, ⟨[], 0, 0, some (.map [(0, .agg [i 2, i 1], .c (.bool true))] 1)⟩),
(141, ⟨[], 0, 0, some (.map [] 0)⟩),
(142, ⟨[.snil, .snil, .map 141, i 0], 237, 0, none⟩),
(143, ⟨[.ptr 12 0, .ptr 58 0, .ptr 125 0, o 191 0 6, o 194 0 6, o 197 0 6, f 138 0 6, .ptr 139 0, .map 140, .ptr 142 0], 145, 0, none⟩),
e 144 139,
e 147 139,
e 150 139,
e 153 139,
e 156 139,
(159, ⟨[o 322 0 1], 139, 0, none⟩),
e 162 139,
e 165 139,
e 168 139,
e 171 139,
e 174 139,
e 177 139,
e 180 139,
e 183 139,
e 186 139,
e 189 139,
(191, ⟨[.ptr 144 0, .ptr 153 0, .ptr 162 0, .ptr 171 0, .ptr 180 0, .ptr 189 0], 136, 1, none⟩),
e 192 139,
(194, ⟨[.ptr 147 0, .ptr 156 0, .ptr 165 0, .ptr 174 0, .ptr 183 0, .ptr 192 0], 136, 1, none⟩),
e 195 139,
(197, ⟨[.ptr 150 0, .ptr 159 0, .ptr 168 0, .ptr 177 0, .ptr 186 0, .ptr 195 0], 136, 1, none⟩),
(199, ⟨[.int .u64 (.ofNat 3)], 224, 1, none⟩),
(322, ⟨[.int .u64 (.ofNat 8)], 224, 1, none⟩)]
private noncomputable abbrev l3 : Bls := [(773, ⟨[], 0, 0, some (.map [(0, .agg [i 1, i 1, i 0, i 0, i 0], .c (o 1202 0 1)), (1, .agg [i 5, i 1, i 0, i 0, i 0], .c (o 1207 0 1)), (2, .agg [i 1, i 2, i 0, i 0, i 0], .c (o 1232 0 1)), (3, .agg [i 1, i 4, i 0, i 0, i 0], .c (o 1268 0 1))] 4)⟩),
(774, ⟨[.map 773, .md 1 (.ofNat 0) true], 155, 0, none⟩),
(1202, ⟨[i 2, i 1, i 0, i 0, i 0], 116, 5, none⟩),
(1207, ⟨[i 1, i 2, i 0, i 0, i 0], 116, 5, none⟩),
(1232, ⟨[i 5, i 0, i 0, i 0, i 0], 116, 5, none⟩),
(1268, ⟨[i 5, i 1, i 0, i 0, i 0], 116, 5, none⟩)]
private noncomputable def m0 : MM := ⟨[48], l0, 58, [⟨48, 0, [.v (.c (.ptr 12 0))], .v (.c (.nili))⟩]⟩
private theorem m0_k : H0.tbl m0 = true := by kernel_rfl
private noncomputable def h1 : HK := H0.memo m0 m0_k
private noncomputable def m1 : MM := ⟨[155], [(12, ⟨[f 2 0 1, f 9 0 4, f 11 0 1, .snil, o 39 0 2, i 0], 57, 0, none⟩),
(21, ⟨[o 31 0 3, i 3, i 0, i 0, i 0], 46, 0, none⟩),
(37, ⟨[o 42 0 1, i 3, i 1, i 0, i 0], 46, 0, none⟩),
(39, ⟨[i 0, o 20 0 2, f 21 0 1, i 1, o 36 0 2, f 37 0 1], 50, 3, none⟩)], 97, [⟨155, 0, [.v (.c (.ptr 12 0)), .v (.c (i 0))], .tup [.agg [i 0, i 0, i 0], .c (.bool true)]⟩,
⟨155, 1, [.v (.c (.ptr 12 0)), .v (.c (i 1))], .tup [.agg [i 0, i 0, i 1], .c (.bool true)]⟩,
⟨155, 2, [.v (.c (.ptr 12 0)), .v (.c (i 2))], .tup [.agg [i 0, i 0, i 2], .c (.bool true)]⟩,
⟨155, 3, [.v (.c (.ptr 12 0)), .v (.c (i 3))], .tup [.agg [i 0, i 0, i 3], .c (.bool true)]⟩,
⟨155, 4, [.v (.c (.ptr 12 0)), .v (.c (i 4))], .tup [.agg [i 1, i 0, i 0], .c (.bool true)]⟩,
⟨155, 5, [.v (.c (.ptr 12 0)), .v (.c (i 5))], .tup [.agg [i 1, i 0, i 1], .c (.bool true)]⟩]⟩
private theorem m1_k : h1.tbl m1 = true := by kernel_rfl
private noncomputable def h2 : HK := h1.memo m1 m1_k
private noncomputable def s1 : RE := ⟨76, [.v (.c (.ptr 12 0))], 58, .v (.c (.ptr 58 0)), [(58, ⟨[o 78 0 2, o 82 0 2, .snil, .snil, .snil, i 6], 230, 0, none⟩),
(64, ⟨[i 0, i 1], 3, 1, none⟩),
(76, ⟨[i 3, i 4], 3, 1, none⟩),
(78, ⟨[o 64 0 2, o 76 0 2], 27, 1, none⟩),
(82, ⟨[i 2, i 5], 3, 1, none⟩)], 125⟩
private theorem s1_k : h2.srp l0 s1 = true := by kernel_rfl
private noncomputable def h3 : HK := h2.srep _ s1 s1_k
private noncomputable def s2 : RE := ⟨49, [.v (.c (.ptr 12 0)), .v (.c (.snil))], 58, .v (.c (.ptr 143 0)), l1, 588⟩
private theorem s2_k : h3.rep l0 s2 = true := by kernel_rfl
private noncomputable def h4 : HK := h3.repl _ s2 s2_k
private noncomputable def s3 : RE := ⟨151, [.v (.c (.ptr 12 0)), .v (.c (.ptr 143 0)), .v (.c (i 2))], 673, .v (.c (.snil)), [], 734⟩
private theorem s3_k : h4.srp l2 s3 = true := by kernel_rfl
private noncomputable def h5 : HK := h4.srep _ s3 s3_k
private noncomputable def s4 : RE := ⟨85, [.v (.c (.ptr 12 0)), .v (.c (.ptr 143 0)), .v (.c (i 0))], 776, .v (.c (.snil)), [], 915⟩
private theorem s4_k : h5.srp l2 s4 = true := by kernel_rfl
private noncomputable def h6 : HK := h5.srep _ s4 s4_k
private noncomputable def s5 : RE := ⟨86, [.v (.c (.ptr 12 0)), .v (.c (.ptr 143 0)), .v (.c (i 0))], 917, .v (.c (.snil)), [], 984⟩
private theorem s5_k : h6.srp l2 s5 = true := by kernel_rfl
private noncomputable def h7 : HK := h6.srep _ s5 s5_k
private noncomputable def s6 : RE := ⟨85, [.v (.c (.ptr 12 0)), .v (.c (.ptr 143 0)), .v (.c (i 1))], 986, .v (.c (.snil)), [], 1091⟩
private theorem s6_k : h7.srp l2 s6 = true := by kernel_rfl
private noncomputable def h8 : HK := h7.srep _ s6 s6_k
private noncomputable def s7 : RE := ⟨86, [.v (.c (.ptr 12 0)), .v (.c (.ptr 143 0)), .v (.c (i 1))], 1093, .v (.c (.snil)), [], 1143⟩
private theorem s7_k : h8.srp l2 s7 = true := by kernel_rfl
private noncomputable def h9 : HK := h8.srep _ s7 s7_k
private noncomputable def s8 : RE := ⟨50, [.v (.c (.ptr 12 0)), .v (.c (.ptr 143 0))], 588, .v (.c (.ptr 774 0)), l3, 1270⟩
private theorem s8_k : h9.rep l2 s8 = true := by kernel_rfl
private noncomputable def h10 : HK := h9.repl _ s8 s8_k
theorem TopNilParam_0_t_run : isBool true (runW h10.K 12 [mi 8 0, ab true] s0) = true := by kernel_rfl
theorem TopNilParam_0_t_law {args : Array Value} (ha : VAs (fun _ => none) [mi 8 0, ab true] args.toList) (w : World) (hT : Tab w) :
    Calls Tryz.prog 12 args w fun e w' => Below w.heap.size w w' ∧ e = .returned (.bool true) := h10.law TopNilParam_0_t_run ha w hT
end Go.Proofs.YteajpblmbmncdaaGreatDoor
