/- Tables of calls, and a run that uses them. -/
import Derived.Test.YteajpblmbmncdaaGreatDoorLn
namespace Go.Proofs.YteajpblmbmncdaaGreatDoor
open Go Go.RowKit Ev
set_option maxRecDepth 100000
set_option linter.unusedVariables false
private noncomputable abbrev i (n : Nat) : CV := .int .i64 (.ofNat n)
private noncomputable abbrev o (b a n : Nat) : CV := .slice b a n (.opn 0)
private noncomputable abbrev f (b a n : Nat) : CV := .slice b a n (.fix n)
private noncomputable abbrev e (k t : Nat) : Nat × BK := (k, ⟨[.snil], t, 0, none⟩)
private noncomputable abbrev l0 : Bls := [(1, ⟨[i 0, i 0, i 0, i 0, i 1, i 0], 69, 0, none⟩),
(2, ⟨[f 1 0 3], 47, 0, none⟩),
(4, ⟨[i 1, i 0], 69, 0, none⟩),
(5, ⟨[i 0, i 0], 69, 0, none⟩),
(7, ⟨[i 1, i 0], 69, 0, none⟩),
(9, ⟨[.snil, i 0, i 0, f 4 0 1, i 0, i 0, f 5 0 1, i 0, i 0, f 7 0 1, i 1, i 0], 72, 0, none⟩),
(10, ⟨[i 0], 3, 0, none⟩),
(11, ⟨[f 10 0 1], 74, 0, none⟩),
(12, ⟨[f 2 0 1, f 9 0 4, f 11 0 1, .snil, o 49 0 3, i 0], 57, 0, none⟩),
(19, ⟨[i 0, i 0, i 0, i 0], 69, 2, none⟩),
(20, ⟨[o 29 0 3, i 3, i 0, i 0, i 0], 46, 0, none⟩),
(25, ⟨[i 0], 3, 0, none⟩),
(29, ⟨[i 3, i 0, i 0, i 0, i 0, .snil, i 12, i 1, i 0, i 0, i 1, f 25 0 1, i 15, i 0, i 1, i 0, i 0, .snil], 29, 6, none⟩),
(34, ⟨[i 0, i 0, i 0, i 0], 69, 2, none⟩),
(35, ⟨[o 41 0 1, i 3, i 0, i 0, i 0], 46, 0, none⟩),
(38, ⟨[i 0], 3, 0, none⟩),
(41, ⟨[i 12, i 0, i 0, i 0, i 2, f 38 0 1], 29, 6, none⟩),
(46, ⟨[i 0, i 0, i 0, i 0], 69, 2, none⟩),
(47, ⟨[.snil, i 3, i 0, i 0, i 0], 46, 0, none⟩),
(49, ⟨[i 0, o 19 0 2, f 20 0 1, i 2, o 34 0 2, f 35 0 1, i 2, o 46 0 2, f 47 0 1], 50, 3, none⟩)]
private noncomputable abbrev l1 : Bls := [(51, ⟨[o 83 0 3, o 87 0 3, .snil, .snil, .snil, i 9], 230, 0, none⟩),
(57, ⟨[i 0, i 1], 3, 1, none⟩),
(69, ⟨[i 3, i 4], 3, 1, none⟩),
(81, ⟨[i 6, i 7], 3, 1, none⟩),
(83, ⟨[o 57 0 2, o 69 0 2, o 81 0 2], 27, 1, none⟩),
(87, ⟨[i 2, i 5, i 8], 3, 1, none⟩),
(137, ⟨[o 155 0 9], 233, 0, none⟩),
(155, ⟨[i 0, i 1, i 2, i 3, i 4, i 5, i 6, i 7, i 8], 3, 1, none⟩),
(156, ⟨[.snil, .snil, .snil, .snil, .snil, .snil, .snil, .snil, .snil], 238, 0, none⟩),
(157, ⟨[o 244 0 1], 139, 0, none⟩),
(158, ⟨[], 0, 0, some (.map [(0, .agg [i 1, i 1], .c (.bool true)), (1, .agg [i 4, i 2], .c (.bool true))] 2)⟩),
(159, ⟨[], 0, 0, some (.map [] 0)⟩),
(160, ⟨[.snil, .snil, .map 159, i 0], 237, 0, none⟩),
(161, ⟨[.ptr 12 0, .ptr 51 0, .ptr 137 0, o 236 0 9, o 239 0 9, o 242 0 9, f 156 0 9, .ptr 157 0, .map 158, .ptr 160 0], 145, 0, none⟩),
e 162 139,
e 165 139,
e 168 139,
e 171 139,
e 174 139,
e 177 139,
e 180 139,
e 183 139,
e 186 139,
e 189 139,
e 192 139,
e 195 139,
e 198 139,
e 201 139,
e 204 139,
e 207 139,
e 210 139,
e 213 139,
e 216 139,
e 219 139,
e 222 139,
e 225 139,
e 228 139,
e 231 139,
e 234 139,
(236, ⟨[.ptr 162 0, .ptr 171 0, .ptr 180 0, .ptr 189 0, .ptr 198 0, .ptr 207 0, .ptr 216 0, .ptr 225 0, .ptr 234 0], 136, 1, none⟩),
e 237 139,
(239, ⟨[.ptr 165 0, .ptr 174 0, .ptr 183 0, .ptr 192 0, .ptr 201 0, .ptr 210 0, .ptr 219 0, .ptr 228 0, .ptr 237 0], 136, 1, none⟩),
e 240 139,
(242, ⟨[.ptr 168 0, .ptr 177 0, .ptr 186 0, .ptr 195 0, .ptr 204 0, .ptr 213 0, .ptr 222 0, .ptr 231 0, .ptr 240 0], 136, 1, none⟩),
(244, ⟨[.int .u64 (.ofNat 7)], 224, 1, none⟩)]
private noncomputable abbrev l2 : Bls := [(1, ⟨[i 0, i 0, i 0, i 0, i 1, i 0], 69, 0, none⟩),
(2, ⟨[f 1 0 3], 47, 0, none⟩),
(4, ⟨[i 1, i 0], 69, 0, none⟩),
(5, ⟨[i 0, i 0], 69, 0, none⟩),
(7, ⟨[i 1, i 0], 69, 0, none⟩),
(9, ⟨[.snil, i 0, i 0, f 4 0 1, i 0, i 0, f 5 0 1, i 0, i 0, f 7 0 1, i 1, i 0], 72, 0, none⟩),
(10, ⟨[i 0], 3, 0, none⟩),
(11, ⟨[f 10 0 1], 74, 0, none⟩),
(12, ⟨[f 2 0 1, f 9 0 4, f 11 0 1, .snil, o 49 0 3, i 0], 57, 0, none⟩),
(19, ⟨[i 0, i 0, i 0, i 0], 69, 2, none⟩),
(20, ⟨[o 29 0 3, i 3, i 0, i 0, i 0], 46, 0, none⟩),
(25, ⟨[i 0], 3, 0, none⟩),
(29, ⟨[i 3, i 0, i 0, i 0, i 0, .snil, i 12, i 1, i 0, i 0, i 1, f 25 0 1, i 15, i 0, i 1, i 0, i 0, .snil], 29, 6, none⟩),
(34, ⟨[i 0, i 0, i 0, i 0], 69, 2, none⟩),
(35, ⟨[o 41 0 1, i 3, i 0, i 0, i 0], 46, 0, none⟩),
(38, ⟨[i 0], 3, 0, none⟩),
(41, ⟨[i 12, i 0, i 0, i 0, i 2, f 38 0 1], 29, 6, none⟩),
(46, ⟨[i 0, i 0, i 0, i 0], 69, 2, none⟩),
(47, ⟨[.snil, i 3, i 0, i 0, i 0], 46, 0, none⟩),
(49, ⟨[i 0, o 19 0 2, f 20 0 1, i 2, o 34 0 2, f 35 0 1, i 2, o 46 0 2, f 47 0 1], 50, 3, none⟩),
(51, ⟨[o 83 0 3, o 87 0 3, .snil, .snil, .snil, i 9], 230, 0, none⟩),
(57, ⟨[i 0, i 1], 3, 1, none⟩),
(69, ⟨[i 3, i 4], 3, 1, none⟩),
(81, ⟨[i 6, i 7], 3, 1, none⟩),
(83, ⟨[o 57 0 2, o 69 0 2, o 81 0 2], 27, 1, none⟩),
(87, ⟨[i 2, i 5, i 8], 3, 1, none⟩),
(137, ⟨[o 155 0 9], 233, 0, none⟩),
(155, ⟨[i 0, i 1, i 2, i 3, i 4, i 5, i 6, i 7, i 8], 3, 1, none⟩),
(156, ⟨[.snil, .snil, .snil, .snil, .snil, .snil, .snil, .snil, .snil], 238, 0, none⟩),
(157, ⟨[o 244 0 1], 139, 0, none⟩),
(158, ⟨[], 0, 0, some (.map [(0, .agg [i 1, i 1], .c (.bool true)), (1, .agg [i 4, i 2], .c (.bool true))] 2)⟩),
(159, ⟨[], 0, 0, some (.map [] 0)⟩),
(160, ⟨[.snil, .snil, .map 159, i 0], 237, 0, none⟩),
(161, ⟨[.ptr 12 0, .ptr 51 0, .ptr 137 0, o 236 0 9, o 239 0 9, o 242 0 9, f 156 0 9, .ptr 157 0, .map 158, .ptr 160 0], 145, 0, none⟩),
e 162 139,
e 165 139,
e 168 139,
e 171 139,
e 174 139,
e 177 139,
e 180 139,
e 183 139,
e 186 139,
e 189 139,
e 192 139,
e 195 139,
e 198 139,
e 201 139,
e 204 139,
e 207 139,
e 210 139,
e 213 139,
e 216 139,
e 219 139,
e 222 139,
e 225 139,
e 228 139,
e 231 139,
e 234 139,
(236, ⟨[.ptr 162 0, .ptr 171 0, .ptr 180 0, .ptr 189 0, .ptr 198 0, .ptr 207 0, .ptr 216 0, .ptr 225 0, .ptr 234 0], 136, 1, none⟩),
e 237 139,
(239, ⟨[.ptr 165 0, .ptr 174 0, .ptr 183 0, .ptr 192 0, .ptr 201 0, .ptr 210 0, .ptr 219 0, .ptr 228 0, .ptr 237 0], 136, 1, none⟩),
e 240 139,
(242, ⟨[.ptr 168 0, .ptr 177 0, .ptr 186 0, .ptr 195 0, .ptr 204 0, .ptr 213 0, .ptr 222 0, .ptr 231 0, .ptr 240 0], 136, 1, none⟩),
(244, ⟨[.int .u64 (.ofNat 7)], 224, 1, none⟩)]
private noncomputable abbrev l3 : Bls := [(1233, ⟨[], 0, 0, some (.map [(0, .agg [i 1, i 0, i 0, i 0, i 0], .c (o 1914 0 2)), (1, .agg [i 5, i 1, i 0, i 0, i 0], .c (o 1868 0 1)), (2, .agg [i 2, i 1, i 0, i 0, i 0], .c (o 1938 0 1)), (3, .agg [i 5, i 2, i 0, i 0, i 0], .c (o 1943 0 1)), (4, .agg [i 1, i 4, i 0, i 0, i 0], .c (o 1968 0 1)), (5, .agg [i 2, i 2, i 0, i 0, i 0], .c (o 1985 0 1))] 6)⟩),
(1234, ⟨[.map 1233, .md 1 (.ofNat 0) true], 155, 0, none⟩),
(1868, ⟨[i 1, i 1, i 0, i 0, i 0], 116, 5, none⟩),
(1914, ⟨[i 2, i 1, i 0, i 0, i 0, i 5, i 0, i 0, i 0, i 0], 116, 5, none⟩),
(1938, ⟨[i 2, i 2, i 0, i 0, i 0], 116, 5, none⟩),
(1943, ⟨[i 1, i 4, i 0, i 0, i 0], 116, 5, none⟩),
(1968, ⟨[i 5, i 1, i 0, i 0, i 0], 116, 5, none⟩),
(1985, ⟨[i 5, i 2, i 0, i 0, i 0], 116, 5, none⟩)]
private noncomputable def m0 : MM := ⟨[48], l0, 51, [⟨48, 0, [.v (.c (.ptr 12 0))], .v (.c (.nili))⟩]⟩
private theorem m0_k : H0.tbl m0 = true := by kernel_rfl
private noncomputable def h1 : HK := H0.memo m0 m0_k
private noncomputable def m1 : MM := ⟨[155], [(12, ⟨[f 2 0 1, f 9 0 4, f 11 0 1, .snil, o 49 0 3, i 0], 57, 0, none⟩),
(20, ⟨[o 29 0 3, i 3, i 0, i 0, i 0], 46, 0, none⟩),
(35, ⟨[o 41 0 1, i 3, i 0, i 0, i 0], 46, 0, none⟩),
(47, ⟨[.snil, i 3, i 0, i 0, i 0], 46, 0, none⟩),
(49, ⟨[i 0, o 19 0 2, f 20 0 1, i 2, o 34 0 2, f 35 0 1, i 2, o 46 0 2, f 47 0 1], 50, 3, none⟩)], 104, [⟨155, 0, [.v (.c (.ptr 12 0)), .v (.c (i 0))], .tup [.agg [i 0, i 0, i 0], .c (.bool true)]⟩,
⟨155, 1, [.v (.c (.ptr 12 0)), .v (.c (i 1))], .tup [.agg [i 0, i 0, i 1], .c (.bool true)]⟩,
⟨155, 2, [.v (.c (.ptr 12 0)), .v (.c (i 2))], .tup [.agg [i 0, i 0, i 2], .c (.bool true)]⟩,
⟨155, 3, [.v (.c (.ptr 12 0)), .v (.c (i 3))], .tup [.agg [i 0, i 0, i 3], .c (.bool true)]⟩,
⟨155, 4, [.v (.c (.ptr 12 0)), .v (.c (i 4))], .tup [.agg [i 1, i 0, i 0], .c (.bool true)]⟩,
⟨155, 5, [.v (.c (.ptr 12 0)), .v (.c (i 5))], .tup [.agg [i 1, i 0, i 1], .c (.bool true)]⟩,
⟨155, 6, [.v (.c (.ptr 12 0)), .v (.c (i 6))], .tup [.agg [i 2, i 0, i 0], .c (.bool true)]⟩]⟩
private theorem m1_k : h1.tbl m1 = true := by kernel_rfl
private noncomputable def h2 : HK := h1.memo m1 m1_k
private noncomputable def s1 : RE := ⟨76, [.v (.c (.ptr 12 0))], 51, .v (.c (.ptr 51 0)), [(51, ⟨[o 83 0 3, o 87 0 3, .snil, .snil, .snil, i 9], 230, 0, none⟩),
(57, ⟨[i 0, i 1], 3, 1, none⟩),
(69, ⟨[i 3, i 4], 3, 1, none⟩),
(81, ⟨[i 6, i 7], 3, 1, none⟩),
(83, ⟨[o 57 0 2, o 69 0 2, o 81 0 2], 27, 1, none⟩),
(87, ⟨[i 2, i 5, i 8], 3, 1, none⟩)], 137⟩
private theorem s1_k : h2.srp l0 s1 = true := by kernel_rfl
private noncomputable def h3 : HK := h2.srep _ s1 s1_k
private noncomputable def s2 : RE := ⟨49, [.v (.c (.ptr 12 0)), .v (.c (.snil))], 51, .v (.c (.ptr 161 0)), l1, 963⟩
private theorem s2_k : h3.rep l0 s2 = true := by kernel_rfl
private noncomputable def h4 : HK := h3.repl _ s2 s2_k
private noncomputable def s3 : RE := ⟨151, [.v (.c (.ptr 12 0)), .v (.c (.ptr 161 0)), .v (.c (i 1))], 1047, .v (.c (.snil)), [], 1117⟩
private theorem s3_k : h4.srp l2 s3 = true := by kernel_rfl
private noncomputable def h5 : HK := h4.srep _ s3 s3_k
private noncomputable def s4 : RE := ⟨151, [.v (.c (.ptr 12 0)), .v (.c (.ptr 161 0)), .v (.c (i 4))], 1146, .v (.c (.snil)), [], 1207⟩
private theorem s4_k : h5.srp l2 s4 = true := by kernel_rfl
private noncomputable def h6 : HK := h5.srep _ s4 s4_k
private noncomputable def s5 : RE := ⟨85, [.v (.c (.ptr 12 0)), .v (.c (.ptr 161 0)), .v (.c (i 0))], 1236, .v (.c (.snil)), [], 1390⟩
private theorem s5_k : h6.srp l2 s5 = true := by kernel_rfl
private noncomputable def h7 : HK := h6.srep _ s5 s5_k
private noncomputable def s6 : RE := ⟨86, [.v (.c (.ptr 12 0)), .v (.c (.ptr 161 0)), .v (.c (i 0))], 1392, .v (.c (.snil)), [], 1469⟩
private theorem s6_k : h7.srp l2 s6 = true := by kernel_rfl
private noncomputable def h8 : HK := h7.srep _ s6 s6_k
private noncomputable def s7 : RE := ⟨85, [.v (.c (.ptr 12 0)), .v (.c (.ptr 161 0)), .v (.c (i 1))], 1471, .v (.c (.snil)), [], 1591⟩
private theorem s7_k : h8.srp l2 s7 = true := by kernel_rfl
private noncomputable def h9 : HK := h8.srep _ s7 s7_k
private noncomputable def s8 : RE := ⟨86, [.v (.c (.ptr 12 0)), .v (.c (.ptr 161 0)), .v (.c (i 1))], 1593, .v (.c (.snil)), [], 1653⟩
private theorem s8_k : h9.srp l2 s8 = true := by kernel_rfl
private noncomputable def h10 : HK := h9.srep _ s8 s8_k
private noncomputable def s9 : RE := ⟨85, [.v (.c (.ptr 12 0)), .v (.c (.ptr 161 0)), .v (.c (i 2))], 1655, .v (.c (.snil)), [], 1757⟩
private theorem s9_k : h10.srp l2 s9 = true := by kernel_rfl
private noncomputable def h11 : HK := h10.srep _ s9 s9_k
private noncomputable def s10 : RE := ⟨86, [.v (.c (.ptr 12 0)), .v (.c (.ptr 161 0)), .v (.c (i 2))], 1759, .v (.c (.snil)), [], 1810⟩
private theorem s10_k : h11.srp l2 s10 = true := by kernel_rfl
private noncomputable def h12 : HK := h11.srep _ s10 s10_k
private noncomputable def s11 : RE := ⟨50, [.v (.c (.ptr 12 0)), .v (.c (.ptr 161 0))], 963, .v (.c (.ptr 1234 0)), l3, 1987⟩
private theorem s11_k : h12.rep l2 s11 = true := by kernel_rfl
private noncomputable def h13 : HK := h12.repl _ s11 s11_k
theorem TopTaintCalls_1_f_run : isBool true (runW h13.K 4 [mi 10 1, ab false] s0) = true := by kernel_rfl
theorem TopTaintCalls_1_f_law {args : Array Value} (ha : VAs (fun _ => none) [mi 10 1, ab false] args.toList) (w : World) (hT : Tab w) :
    Calls Tryz.prog 4 args w fun e w' => Below w.heap.size w w' ∧ e = .returned (.bool true) := h13.law TopTaintCalls_1_f_run ha w hT
end Go.Proofs.YteajpblmbmncdaaGreatDoor
