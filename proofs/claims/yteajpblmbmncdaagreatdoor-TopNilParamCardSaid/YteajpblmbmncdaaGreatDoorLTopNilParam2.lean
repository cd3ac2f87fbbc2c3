/- Tables of calls, and a run that uses them. -/
import Derived.Test.YteajpblmbmncdaaGreatDoorLn
namespace Go.Proofs.YteajpblmbmncdaaGreatDoor
open Go Go.RowKit Ev
set_option maxRecDepth 100000
set_option linter.unusedVariables false
private noncomputable abbrev i (n : Nat) : CV := .int .i64 (.ofNat n)
private noncomputable abbrev o (b a n : Nat) : CV := .slice b a n (.opn 0)
private noncomputable abbrev f (b a n : Nat) : CV := .slice b a n (.fix n)
private noncomputable abbrev e (k t : Nat) : Nat × BK := (k, ⟨[.snil], t, 0, none⟩)
private noncomputable abbrev l0 : Bls := [(1, ⟨[i 0, i 0, i 0, i 0, i 1, i 0], 69, 0, none⟩),
(2, ⟨[f 1 0 3], 47, 0, none⟩),
(4, ⟨[i 1, i 0], 69, 0, none⟩),
(5, ⟨[i 0, i 0], 69, 0, none⟩),
(7, ⟨[i 1, i 0], 69, 0, none⟩),
(9, ⟨[.snil, i 0, i 0, f 4 0 1, i 0, i 0, f 5 0 1, i 0, i 0, f 7 0 1, i 1, i 0], 72, 0, none⟩),
(10, ⟨[i 0], 3, 0, none⟩),
(11, ⟨[f 10 0 1], 74, 0, none⟩),
(12, ⟨[f 2 0 1, f 9 0 4, f 11 0 1, .snil, o 51 0 3, i 0], 57, 0, none⟩),
(20, ⟨[i 0, i 0, i 1, i 0], 69, 2, none⟩),
(21, ⟨[o 31 0 3, i 3, i 0, i 0, i 0], 46, 0, none⟩),
(28, ⟨[i 1], 3, 0, none⟩),
(31, ⟨[i 1, i 0, i 0, i 0, i 1, .snil, i 4, i 1, i 0, i 0, i 0, .snil, i 12, i 0, i 0, i 0, i 1, f 28 0 1], 29, 6, none⟩),
(36, ⟨[i 1, i 0, i 0, i 0], 69, 2, none⟩),
(37, ⟨[o 43 0 1, i 3, i 1, i 0, i 0], 46, 0, none⟩),
(40, ⟨[i 0], 3, 0, none⟩),
(43, ⟨[i 12, i 1, i 0, i 0, i 2, f 40 0 1], 29, 6, none⟩),
(48, ⟨[i 1, i 0, i 0, i 0], 69, 2, none⟩),
(49, ⟨[o 54 0 1, i 3, i 1, i 0, i 0], 46, 0, none⟩),
(51, ⟨[i 0, o 20 0 2, f 21 0 1, i 1, o 36 0 2, f 37 0 1, i 1, o 48 0 2, f 49 0 1], 50, 3, none⟩),
(54, ⟨[i 7, i 1, i 0, i 0, i 0, .snil], 29, 6, none⟩)]
private noncomputable abbrev l1 : Bls := [(74, ⟨[o 106 0 3, o 110 0 3, .snil, .snil, .snil, i 9], 230, 0, none⟩),
(80, ⟨[i 0, i 1], 3, 1, none⟩),
(92, ⟨[i 3, i 4], 3, 1, none⟩),
(104, ⟨[i 6, i 7], 3, 1, none⟩),
(106, ⟨[o 80 0 2, o 92 0 2, o 104 0 2], 27, 1, none⟩),
(110, ⟨[i 2, i 5, i 8], 3, 1, none⟩),
(167, ⟨[o 185 0 9], 233, 0, none⟩),
(185, ⟨[i 0, i 1, i 2, i 3, i 4, i 5, i 6, i 7, i 8], 3, 1, none⟩),
(186, ⟨[.snil, .snil, .snil, .snil, .snil, .snil, .snil, .snil, .snil], 238, 0, none⟩),
(187, ⟨[o 274 0 1], 139, 0, none⟩),
(188, ⟨[], 0, 0, some (.map [(0, .agg [i 2, i 1], .c (.bool true)), (1, .agg [i 4, i 2], .c (.bool true))] 2)⟩),
(189, ⟨[], 0, 0, some (.map [] 0)⟩),
(190, ⟨[.snil, .snil, .map 189, i 0], 237, 0, none⟩),
(191, ⟨[.ptr 12 0, .ptr 74 0, .ptr 167 0, o 266 0 9, o 269 0 9, o 272 0 9, f 186 0 9, .ptr 187 0, .map 188, .ptr 190 0], 145, 0, none⟩),
e 192 139,
e 195 139,
e 198 139,
e 201 139,
e 204 139,
(207, ⟨[o 429 0 1], 139, 0, none⟩),
e 210 139,
e 213 139,
e 216 139,
e 219 139,
e 222 139,
(225, ⟨[o 708 0 1], 139, 0, none⟩),
e 228 139,
e 231 139,
e 234 139,
e 237 139,
e 240 139,
e 243 139,
e 246 139,
e 249 139,
e 252 139,
e 255 139,
e 258 139,
e 261 139,
e 264 139,
(266, ⟨[.ptr 192 0, .ptr 201 0, .ptr 210 0, .ptr 219 0, .ptr 228 0, .ptr 237 0, .ptr 246 0, .ptr 255 0, .ptr 264 0], 136, 1, none⟩),
e 267 139,
(269, ⟨[.ptr 195 0, .ptr 204 0, .ptr 213 0, .ptr 222 0, .ptr 231 0, .ptr 240 0, .ptr 249 0, .ptr 258 0, .ptr 267 0], 136, 1, none⟩),
e 270 139,
(272, ⟨[.ptr 198 0, .ptr 207 0, .ptr 216 0, .ptr 225 0, .ptr 234 0, .ptr 243 0, .ptr 252 0, .ptr 261 0, .ptr 270 0], 136, 1, none⟩),
(274, ⟨[.int .u64 (.ofNat 7)], 224, 1, none⟩),
(429, ⟨[.int .u64 (.ofNat 8)], 224, 1, none⟩),
(708, ⟨[.int .u64 (.ofNat 64)], 224, 1, none⟩)]
private noncomputable abbrev l2 : Bls := [(1, ⟨[i 0, i 0, i 0, i 0, i 1, i 0], 69, 0, none⟩),
(2, ⟨[f 1 0 3], 47, 0, none⟩),
(4, ⟨[i 1, i 0], 69, 0, none⟩),
(5, ⟨[i 0, i 0], 69, 0, none⟩),
(7, ⟨[i 1, i 0], 69, 0, none⟩),
(9, ⟨[.snil, i 0, i 0, f 4 0 1, i 0, i 0, f 5 0 1, i 0, i 0, f 7 0 1, i 1, i 0], 72, 0, none⟩),
(10, ⟨[i 0], 3, 0, none⟩),
(11, ⟨[f 10 0 1], 74, 0, none⟩),
(12, ⟨[f 2 0 1, f 9 0 4, f 11 0 1, .snil, o 51 0 3, i 0], 57, 0, none⟩),
(20, ⟨[i 0, i 0, i 1, i 0], 69, 2, none⟩),
(21, ⟨[o 31 0 3, i 3, i 0, i 0, i 0], 46, 0, none⟩),
(28, ⟨[i 1], 3, 0, none⟩),
(31, ⟨[i 1, i 0, i 0, i 0, i 1, .snil, i 4, i 1, i 0, i 0, i 0, .snil, i 12, i 0, i 0, i 0, i 1, f 28 0 1], 29, 6, none⟩),
(36, ⟨[i 1, i 0, i 0, i 0], 69, 2, none⟩),
(37, ⟨[o 43 0 1, i 3, i 1, i 0, i 0], 46, 0, none⟩),
(40, ⟨[i 0], 3, 0, none⟩),
(43, ⟨[i 12, i 1, i 0, i 0, i 2, f 40 0 1], 29, 6, none⟩),
(48, ⟨[i 1, i 0, i 0, i 0], 69, 2, none⟩),
(49, ⟨[o 54 0 1, i 3, i 1, i 0, i 0], 46, 0, none⟩),
(51, ⟨[i 0, o 20 0 2, f 21 0 1, i 1, o 36 0 2, f 37 0 1, i 1, o 48 0 2, f 49 0 1], 50, 3, none⟩),
(54, ⟨[i 7, i 1, i 0, i 0, i 0, .snil], 29, 6, none⟩),
(74, ⟨[o 106 0 3, o 110 0 3, .snil, .snil, .snil, i 9], 230, 0, none⟩),
(80, ⟨[i 0, i 1], 3, 1, none⟩),
(92, ⟨[i 3, i 4], 3, 1, none⟩),
(104, ⟨[i 6, i 7], 3, 1, none⟩),
(106, ⟨[o 80 0 2, o 92 0 2, o 104 0 2], 27, 1, none⟩),
(110, ⟨[i 2, i 5, i 8], 3, 1, none⟩),
(167, ⟨[o 185 0 9], 233, 0, none⟩),
(185, ⟨[i 0, i 1, i 2, i 3, i 4, i 5, i 6, i 7, i 8], 3, 1, none⟩),
(186, ⟨[.snil, .snil, .snil, .snil, .snil, .snil, .snil, .snil, .snil], 238, 0, none⟩),
(187, ⟨[o 274 0 1], 139, 0, none⟩),
(188, ⟨[], 0, 0, some (.map [(0, .agg [i 2, i 1], .c (.bool true)), (1, .agg [i 4, i 2], .c (.bool true))] 2)⟩),
(189, ⟨[], 0, 0, some (.map [] 0)⟩),
(190, ⟨[.snil, .snil, .map 189, i 0], 237, 0, none⟩),
(191, ⟨[.ptr 12 0, .ptr 74 0, .ptr 167 0, o 266 0 9, o 269 0 9, o 272 0 9, f 186 0 9, .ptr 187 0, .map 188, .ptr 190 0], 145, 0, none⟩),
e 192 139,
e 195 139,
e 198 139,
e 201 139,
e 204 139,
(207, ⟨[o 429 0 1], 139, 0, none⟩),
e 210 139,
e 213 139,
e 216 139,
e 219 139,
e 222 139,
(225, ⟨[o 708 0 1], 139, 0, none⟩),
e 228 139,
e 231 139,
e 234 139,
e 237 139,
e 240 139,
e 243 139,
e 246 139,
e 249 139,
e 252 139,
e 255 139,
e 258 139,
e 261 139,
e 264 139,
(266, ⟨[.ptr 192 0, .ptr 201 0, .ptr 210 0, .ptr 219 0, .ptr 228 0, .ptr 237 0, .ptr 246 0, .ptr 255 0, .ptr 264 0], 136, 1, none⟩),
e 267 139,
(269, ⟨[.ptr 195 0, .ptr 204 0, .ptr 213 0, .ptr 222 0, .ptr 231 0, .ptr 240 0, .ptr 249 0, .ptr 258 0, .ptr 267 0], 136, 1, none⟩),
e 270 139,
(272, ⟨[.ptr 198 0, .ptr 207 0, .ptr 216 0, .ptr 225 0, .ptr 234 0, .ptr 243 0, .ptr 252 0, .ptr 261 0, .ptr 270 0], 136, 1, none⟩),
(274, ⟨[.int .u64 (.ofNat 7)], 224, 1, none⟩),
(429, ⟨[.int .u64 (.ofNat 8)], 224, 1, none⟩),
(708, ⟨[.int .u64 (.ofNat 64)], 224, 1, none⟩)]
private noncomputable abbrev l3 : Bls := [(1390, ⟨[], 0, 0, some (.map [(0, .agg [i 1, i 1, i 0, i 0, i 0], .c (o 2107 0 1)), (1, .agg [i 5, i 1, i 0, i 0, i 0], .c (o 2112 0 1)), (2, .agg [i 1, i 2, i 0, i 0, i 0], .c (o 2137 0 1)), (3, .agg [i 2, i 1, i 0, i 0, i 0], .c (o 2161 0 1)), (4, .agg [i 5, i 2, i 0, i 0, i 0], .c (o 2166 0 1)), (5, .agg [i 1, i 4, i 0, i 0, i 0], .c (o 2191 0 1)), (6, .agg [i 1, i 6, i 0, i 0, i 0], .c (o 2227 0 1))] 7)⟩),
(1391, ⟨[.map 1390, .md 1 (.ofNat 0) true], 155, 0, none⟩),
(2107, ⟨[i 2, i 1, i 0, i 0, i 0], 116, 5, none⟩),
(2112, ⟨[i 1, i 2, i 0, i 0, i 0], 116, 5, none⟩),
(2137, ⟨[i 5, i 0, i 0, i 0, i 0], 116, 5, none⟩),
(2161, ⟨[i 2, i 2, i 0, i 0, i 0], 116, 5, none⟩),
(2166, ⟨[i 1, i 4, i 0, i 0, i 0], 116, 5, none⟩),
(2191, ⟨[i 5, i 1, i 0, i 0, i 0], 116, 5, none⟩),
(2227, ⟨[i 5, i 2, i 0, i 0, i 0], 116, 5, none⟩)]
private noncomputable def m0 : MM := ⟨[48], l0, 74, [⟨48, 0, [.v (.c (.ptr 12 0))], .v (.c (.nili))⟩]⟩
private theorem m0_k : H0.tbl m0 = true := by kernel_rfl
private noncomputable def h1 : HK := H0.memo m0 m0_k
private noncomputable def m1 : MM := ⟨[155], [(12, ⟨[f 2 0 1, f 9 0 4, f 11 0 1, .snil, o 51 0 3, i 0], 57, 0, none⟩),
(21, ⟨[o 31 0 3, i 3, i 0, i 0, i 0], 46, 0, none⟩),
(37, ⟨[o 43 0 1, i 3, i 1, i 0, i 0], 46, 0, none⟩),
(49, ⟨[o 54 0 1, i 3, i 1, i 0, i 0], 46, 0, none⟩),
(51, ⟨[i 0, o 20 0 2, f 21 0 1, i 1, o 36 0 2, f 37 0 1, i 1, o 48 0 2, f 49 0 1], 50, 3, none⟩)], 129, [⟨155, 0, [.v (.c (.ptr 12 0)), .v (.c (i 0))], .tup [.agg [i 0, i 0, i 0], .c (.bool true)]⟩,
⟨155, 1, [.v (.c (.ptr 12 0)), .v (.c (i 1))], .tup [.agg [i 0, i 0, i 1], .c (.bool true)]⟩,
⟨155, 2, [.v (.c (.ptr 12 0)), .v (.c (i 2))], .tup [.agg [i 0, i 0, i 2], .c (.bool true)]⟩,
⟨155, 3, [.v (.c (.ptr 12 0)), .v (.c (i 3))], .tup [.agg [i 0, i 0, i 3], .c (.bool true)]⟩,
⟨155, 4, [.v (.c (.ptr 12 0)), .v (.c (i 4))], .tup [.agg [i 1, i 0, i 0], .c (.bool true)]⟩,
⟨155, 5, [.v (.c (.ptr 12 0)), .v (.c (i 5))], .tup [.agg [i 1, i 0, i 1], .c (.bool true)]⟩,
⟨155, 6, [.v (.c (.ptr 12 0)), .v (.c (i 6))], .tup [.agg [i 2, i 0, i 0], .c (.bool true)]⟩,
⟨155, 7, [.v (.c (.ptr 12 0)), .v (.c (i 7))], .tup [.agg [i 2, i 0, i 1], .c (.bool true)]⟩]⟩
private theorem m1_k : h1.tbl m1 = true := by kernel_rfl
private noncomputable def h2 : HK := h1.memo m1 m1_k
private noncomputable def s1 : RE := ⟨76, [.v (.c (.ptr 12 0))], 74, .v (.c (.ptr 74 0)), [(74, ⟨[o 106 0 3, o 110 0 3, .snil, .snil, .snil, i 9], 230, 0, none⟩),
(80, ⟨[i 0, i 1], 3, 1, none⟩),
(92, ⟨[i 3, i 4], 3, 1, none⟩),
(104, ⟨[i 6, i 7], 3, 1, none⟩),
(106, ⟨[o 80 0 2, o 92 0 2, o 104 0 2], 27, 1, none⟩),
(110, ⟨[i 2, i 5, i 8], 3, 1, none⟩)], 167⟩
private theorem s1_k : h2.srp l0 s1 = true := by kernel_rfl
private noncomputable def h3 : HK := h2.srep _ s1 s1_k
private noncomputable def s2 : RE := ⟨49, [.v (.c (.ptr 12 0)), .v (.c (.snil))], 74, .v (.c (.ptr 191 0)), l1, 1085⟩
private theorem s2_k : h3.rep l0 s2 = true := by kernel_rfl
private noncomputable def h4 : HK := h3.repl _ s2 s2_k
private noncomputable def s3 : RE := ⟨151, [.v (.c (.ptr 12 0)), .v (.c (.ptr 191 0)), .v (.c (i 2))], 1190, .v (.c (.snil)), [], 1267⟩
private theorem s3_k : h4.srp l2 s3 = true := by kernel_rfl
private noncomputable def h5 : HK := h4.srep _ s3 s3_k
private noncomputable def s4 : RE := ⟨151, [.v (.c (.ptr 12 0)), .v (.c (.ptr 191 0)), .v (.c (i 4))], 1283, .v (.c (.snil)), [], 1351⟩
private theorem s4_k : h5.srp l2 s4 = true := by kernel_rfl
private noncomputable def h6 : HK := h5.srep _ s4 s4_k
private noncomputable def s5 : RE := ⟨85, [.v (.c (.ptr 12 0)), .v (.c (.ptr 191 0)), .v (.c (i 0))], 1393, .v (.c (.snil)), [], 1566⟩
private theorem s5_k : h6.srp l2 s5 = true := by kernel_rfl
private noncomputable def h7 : HK := h6.srep _ s5 s5_k
private noncomputable def s6 : RE := ⟨86, [.v (.c (.ptr 12 0)), .v (.c (.ptr 191 0)), .v (.c (i 0))], 1568, .v (.c (.snil)), [], 1652⟩
private theorem s6_k : h7.srp l2 s6 = true := by kernel_rfl
private noncomputable def h8 : HK := h7.srep _ s6 s6_k
private noncomputable def s7 : RE := ⟨85, [.v (.c (.ptr 12 0)), .v (.c (.ptr 191 0)), .v (.c (i 1))], 1654, .v (.c (.snil)), [], 1793⟩
private theorem s7_k : h8.srp l2 s7 = true := by kernel_rfl
private noncomputable def h9 : HK := h8.srep _ s7 s7_k
private noncomputable def s8 : RE := ⟨86, [.v (.c (.ptr 12 0)), .v (.c (.ptr 191 0)), .v (.c (i 1))], 1795, .v (.c (.snil)), [], 1862⟩
private theorem s8_k : h9.srp l2 s8 = true := by kernel_rfl
private noncomputable def h10 : HK := h9.srep _ s8 s8_k
private noncomputable def s9 : RE := ⟨85, [.v (.c (.ptr 12 0)), .v (.c (.ptr 191 0)), .v (.c (i 2))], 1864, .v (.c (.snil)), [], 1985⟩
private theorem s9_k : h10.srp l2 s9 = true := by kernel_rfl
private noncomputable def h11 : HK := h10.srep _ s9 s9_k
private noncomputable def s10 : RE := ⟨86, [.v (.c (.ptr 12 0)), .v (.c (.ptr 191 0)), .v (.c (i 2))], 1987, .v (.c (.snil)), [], 2045⟩
private theorem s10_k : h11.srp l2 s10 = true := by kernel_rfl
private noncomputable def h12 : HK := h11.srep _ s10 s10_k
private noncomputable def s11 : RE := ⟨50, [.v (.c (.ptr 12 0)), .v (.c (.ptr 191 0))], 1085, .v (.c (.ptr 1391 0)), l3, 2229⟩
private theorem s11_k : h12.rep l2 s11 = true := by kernel_rfl
private noncomputable def h13 : HK := h12.repl _ s11 s11_k
theorem TopNilParam_1_t_run : isBool true (runW h13.K 12 [mi 8 1, ab true] s0) = true := by kernel_rfl
theorem TopNilParam_1_t_law {args : Array Value} (ha : VAs (fun _ => none) [mi 8 1, ab true] args.toList) (w : World) (hT : Tab w) :
    Calls Tryz.prog 12 args w fun e w' => Below w.heap.size w w' ∧ e = .returned (.bool true) := h13.law TopNilParam_1_t_run ha w hT
end Go.Proofs.YteajpblmbmncdaaGreatDoor
