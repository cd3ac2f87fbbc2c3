/- Tables of calls, and a run that uses them. -/
import Derived.Test.YteajpblmbmncdaaGreatDoorLn
namespace Go.Proofs.YteajpblmbmncdaaGreatDoor
open Go Go.RowKit Ev
set_option maxRecDepth 100000
set_option linter.unusedVariables false
private noncomputable abbrev i (n : Nat) : CV := .int .i64 (.ofNat n)
private noncomputable abbrev o (b a n : Nat) : CV := .slice b a n (.opn 0)
private noncomputable abbrev f (b a n : Nat) : CV := .slice b a n (.fix n)
private noncomputable abbrev e (k t : Nat) : Nat × BK := (k, ⟨[.snil], t, 0, none⟩)
private noncomputable abbrev l0 : Bls := [(1, ⟨[i 0, i 0, i 0, i 0, i 1, i 0], 69, 0, none⟩),
(2, ⟨[f 1 0 3], 47, 0, none⟩),
(4, ⟨[i 1, i 0], 69, 0, none⟩),
(5, ⟨[i 0, i 0], 69, 0, none⟩),
(7, ⟨[i 1, i 0], 69, 0, none⟩),
(9, ⟨[.snil, i 0, i 0, f 4 0 1, i 0, i 0, f 5 0 1, i 0, i 0, f 7 0 1, i 1, i 0], 72, 0, none⟩),
(10, ⟨[i 0], 3, 0, none⟩),
(11, ⟨[f 10 0 1], 74, 0, none⟩),
(12, ⟨[f 2 0 1, f 9 0 4, f 11 0 1, .snil, o 38 0 2, i 0], 57, 0, none⟩),
(19, ⟨[i 0, i 0, i 0, i 0], 69, 2, none⟩),
(20, ⟨[o 30 0 3, i 3, i 0, i 0, i 0], 46, 0, none⟩),
(26, ⟨[i 0], 3, 0, none⟩),
(30, ⟨[i 1, i 0, i 0, i 0, i 5, .snil, i 12, i 1, i 0, i 0, i 1, f 26 0 1, i 15, i 0, i 1, i 0, i 0, .snil], 29, 6, none⟩),
(35, ⟨[i 0, i 0, i 0, i 0], 69, 2, none⟩),
(36, ⟨[.snil, i 3, i 0, i 0, i 0], 46, 0, none⟩),
(38, ⟨[i 0, o 19 0 2, f 20 0 1, i 2, o 35 0 2, f 36 0 1], 50, 3, none⟩)]
private noncomputable abbrev l1 : Bls := [(39, ⟨[o 59 0 2, o 63 0 2, .snil, .snil, .snil, i 6], 230, 0, none⟩),
(45, ⟨[i 0, i 1], 3, 1, none⟩),
(57, ⟨[i 3, i 4], 3, 1, none⟩),
(59, ⟨[o 45 0 2, o 57 0 2], 27, 1, none⟩),
(63, ⟨[i 2, i 5], 3, 1, none⟩),
(99, ⟨[o 111 0 6], 233, 0, none⟩),
(111, ⟨[i 0, i 1, i 2, i 3, i 4, i 5], 3, 1, none⟩),
(112, ⟨[.snil, .snil, .snil, .snil, .snil, .snil], 238, 0, none⟩),
(113, ⟨[o 173 0 1], 139, 0, none⟩),
(114, ⟨[], 0, 0, some (.map [(0, .agg [i 1, i 1], .c (.bool true))] 1)⟩),
(115, ⟨[], 0, 0, some (.map [] 0)⟩),
(116, ⟨[.snil, .snil, .map 115, i 0], 237, 0, none⟩),
(117, ⟨[.ptr 12 0, .ptr 39 0, .ptr 99 0, o 165 0 6, o 168 0 6, o 171 0 6, f 112 0 6, .ptr 113 0, .map 114, .ptr 116 0], 145, 0, none⟩),
e 118 139,
e 121 139,
e 124 139,
e 127 139,
e 130 139,
e 133 139,
e 136 139,
e 139 139,
e 142 139,
e 145 139,
e 148 139,
e 151 139,
e 154 139,
e 157 139,
e 160 139,
e 163 139,
(165, ⟨[.ptr 118 0, .ptr 127 0, .ptr 136 0, .ptr 145 0, .ptr 154 0, .ptr 163 0], 136, 1, none⟩),
e 166 139,
(168, ⟨[.ptr 121 0, .ptr 130 0, .ptr 139 0, .ptr 148 0, .ptr 157 0, .ptr 166 0], 136, 1, none⟩),
e 169 139,
(171, ⟨[.ptr 124 0, .ptr 133 0, .ptr 142 0, .ptr 151 0, .ptr 160 0, .ptr 169 0], 136, 1, none⟩),
(173, ⟨[.int .u64 (.ofNat 3)], 224, 1, none⟩)]
private noncomputable abbrev l2 : Bls := [(1, ⟨[i 0, i 0, i 0, i 0, i 1, i 0], 69, 0, none⟩),
(2, ⟨[f 1 0 3], 47, 0, none⟩),
(4, ⟨[i 1, i 0], 69, 0, none⟩),
(5, ⟨[i 0, i 0], 69, 0, none⟩),
(7, ⟨[i 1, i 0], 69, 0, none⟩),
(9, ⟨[.snil, i 0, i 0, f 4 0 1, i 0, i 0, f 5 0 1, i 0, i 0, f 7 0 1, i 1, i 0], 72, 0, none⟩),
(10, ⟨[i 0], 3, 0, none⟩),
(11, ⟨[f 10 0 1], 74, 0, none⟩),
(12, ⟨[f 2 0 1, f 9 0 4, f 11 0 1, .snil, o 38 0 2, i 0], 57, 0, none⟩),
(19, ⟨[i 0, i 0, i 0, i 0], 69, 2, none⟩),
(20, ⟨[o 30 0 3, i 3, i 0, i 0, i 0], 46, 0, none⟩),
(26, ⟨[i 0], 3, 0, none⟩),
(30, ⟨[i 1, i 0, i 0, i 0, i 5, .snil, i 12, i 1, i 0, i 0, i 1, f 26 0 1, i 15, i 0, i 1, i 0, i 0, .snil], 29, 6, none⟩),
(35, ⟨[i 0, i 0, i 0, i 0], 69, 2, none⟩),
(36, ⟨[.snil, i 3, i 0, i 0, i 0], 46, 0, none⟩),
(38, ⟨[i 0, o 19 0 2, f 20 0 1, i 2, o 35 0 2, f 36 0 1], 50, 3, none⟩),
(39, ⟨[o 59 0 2, o 63 0 2, .snil, .snil, .snil, i 6], 230, 0, none⟩),
(45, ⟨[i 0, i 1], 3, 1, none⟩),
(57, ⟨[i 3, i 4], 3, 1, none⟩),
(59, ⟨[o 45 0 2, o 57 0 2], 27, 1, none⟩),
(63, ⟨[i 2, i 5], 3, 1, none⟩),
(99, ⟨[o 111 0 6], 233, 0, none⟩),
(111, ⟨[i 0, i 1, i 2, i 3, i 4, i 5], 3, 1, none⟩),
(112, ⟨[.snil, .snil, .snil, .snil, .snil, .snil], 238, 0, none⟩),
(113, ⟨[o 173 0 1], 139, 0, none⟩),
(114, ⟨[], 0, 0, some (.map [(0, .agg [i 1, i 1], .c (.bool true))] 1)⟩),
(115, ⟨[], 0, 0, some (.map [] 0)⟩),
(116, ⟨[.snil, .snil, .map 115, i 0], 237, 0, none⟩),
(117, ⟨[.ptr 12 0, .ptr 39 0, .ptr 99 0, o 165 0 6, o 168 0 6, o 171 0 6, f 112 0 6, .ptr 113 0, .map 114, .ptr 116 0], 145, 0, none⟩),
e 118 139,
e 121 139,
e 124 139,
e 127 139,
e 130 139,
e 133 139,
e 136 139,
e 139 139,
e 142 139,
e 145 139,
e 148 139,
e 151 139,
e 154 139,
e 157 139,
e 160 139,
e 163 139,
(165, ⟨[.ptr 118 0, .ptr 127 0, .ptr 136 0, .ptr 145 0, .ptr 154 0, .ptr 163 0], 136, 1, none⟩),
e 166 139,
(168, ⟨[.ptr 121 0, .ptr 130 0, .ptr 139 0, .ptr 148 0, .ptr 157 0, .ptr 166 0], 136, 1, none⟩),
e 169 139,
(171, ⟨[.ptr 124 0, .ptr 133 0, .ptr 142 0, .ptr 151 0, .ptr 160 0, .ptr 169 0], 136, 1, none⟩),
(173, ⟨[.int .u64 (.ofNat 3)], 224, 1, none⟩)]
private noncomputable abbrev l3 : Bls := [(661, ⟨[], 0, 0, some (.map [(0, .agg [i 1, i 0, i 0, i 0, i 0], .c (o 1080 0 2)), (1, .agg [i 5, i 1, i 0, i 0, i 0], .c (o 1034 0 1)), (2, .agg [i 2, i 1, i 0, i 0, i 0], .c (o 1097 0 1))] 3)⟩),
(662, ⟨[.map 661, .md 1 (.ofNat 0) true], 155, 0, none⟩),
(1034, ⟨[i 1, i 1, i 0, i 0, i 0], 116, 5, none⟩),
(1080, ⟨[i 2, i 1, i 0, i 0, i 0, i 5, i 0, i 0, i 0, i 0], 116, 5, none⟩),
(1097, ⟨[i 5, i 1, i 0, i 0, i 0], 116, 5, none⟩)]
private noncomputable def m0 : MM := ⟨[48], l0, 39, [⟨48, 0, [.v (.c (.ptr 12 0))], .v (.c (.nili))⟩]⟩
private theorem m0_k : H0.tbl m0 = true := by kernel_rfl
private noncomputable def h1 : HK := H0.memo m0 m0_k
private noncomputable def m1 : MM := ⟨[155], [(12, ⟨[f 2 0 1, f 9 0 4, f 11 0 1, .snil, o 38 0 2, i 0], 57, 0, none⟩),
(20, ⟨[o 30 0 3, i 3, i 0, i 0, i 0], 46, 0, none⟩),
(36, ⟨[.snil, i 3, i 0, i 0, i 0], 46, 0, none⟩),
(38, ⟨[i 0, o 19 0 2, f 20 0 1, i 2, o 35 0 2, f 36 0 1], 50, 3, none⟩)], 76, [⟨155, 0, [.v (.c (.ptr 12 0)), .v (.c (i 0))], .tup [.agg [i 0, i 0, i 0], .c (.bool true)]⟩,
⟨155, 1, [.v (.c (.ptr 12 0)), .v (.c (i 1))], .tup [.agg [i 0, i 0, i 1], .c (.bool true)]⟩,
⟨155, 2, [.v (.c (.ptr 12 0)), .v (.c (i 2))], .tup [.agg [i 0, i 0, i 2], .c (.bool true)]⟩,
⟨155, 3, [.v (.c (.ptr 12 0)), .v (.c (i 3))], .tup [.agg [i 0, i 0, i 3], .c (.bool true)]⟩,
⟨155, 4, [.v (.c (.ptr 12 0)), .v (.c (i 4))], .tup [.agg [i 1, i 0, i 0], .c (.bool true)]⟩]⟩
private theorem m1_k : h1.tbl m1 = true := by kernel_rfl
private noncomputable def h2 : HK := h1.memo m1 m1_k
private noncomputable def s1 : RE := ⟨76, [.v (.c (.ptr 12 0))], 39, .v (.c (.ptr 39 0)), [(39, ⟨[o 59 0 2, o 63 0 2, .snil, .snil, .snil, i 6], 230, 0, none⟩),
(45, ⟨[i 0, i 1], 3, 1, none⟩),
(57, ⟨[i 3, i 4], 3, 1, none⟩),
(59, ⟨[o 45 0 2, o 57 0 2], 27, 1, none⟩),
(63, ⟨[i 2, i 5], 3, 1, none⟩)], 99⟩
private theorem s1_k : h2.srp l0 s1 = true := by kernel_rfl
private noncomputable def h3 : HK := h2.srep _ s1 s1_k
private noncomputable def s2 : RE := ⟨49, [.v (.c (.ptr 12 0)), .v (.c (.snil))], 39, .v (.c (.ptr 117 0)), l1, 504⟩
private theorem s2_k : h3.rep l0 s2 = true := by kernel_rfl
private noncomputable def h4 : HK := h3.repl _ s2 s2_k
private noncomputable def s3 : RE := ⟨151, [.v (.c (.ptr 12 0)), .v (.c (.ptr 117 0)), .v (.c (i 1))], 568, .v (.c (.snil)), [], 622⟩
private theorem s3_k : h4.srp l2 s3 = true := by kernel_rfl
private noncomputable def h5 : HK := h4.srep _ s3 s3_k
private noncomputable def s4 : RE := ⟨85, [.v (.c (.ptr 12 0)), .v (.c (.ptr 117 0)), .v (.c (i 0))], 664, .v (.c (.snil)), [], 784⟩
private theorem s4_k : h5.srp l2 s4 = true := by kernel_rfl
private noncomputable def h6 : HK := h5.srep _ s4 s4_k
private noncomputable def s5 : RE := ⟨86, [.v (.c (.ptr 12 0)), .v (.c (.ptr 117 0)), .v (.c (i 0))], 786, .v (.c (.snil)), [], 846⟩
private theorem s5_k : h6.srp l2 s5 = true := by kernel_rfl
private noncomputable def h7 : HK := h6.srep _ s5 s5_k
private noncomputable def s6 : RE := ⟨85, [.v (.c (.ptr 12 0)), .v (.c (.ptr 117 0)), .v (.c (i 1))], 848, .v (.c (.snil)), [], 934⟩
private theorem s6_k : h7.srp l2 s6 = true := by kernel_rfl
private noncomputable def h8 : HK := h7.srep _ s6 s6_k
private noncomputable def s7 : RE := ⟨86, [.v (.c (.ptr 12 0)), .v (.c (.ptr 117 0)), .v (.c (i 1))], 936, .v (.c (.snil)), [], 979⟩
private theorem s7_k : h8.srp l2 s7 = true := by kernel_rfl
private noncomputable def h9 : HK := h8.srep _ s7 s7_k
private noncomputable def s8 : RE := ⟨50, [.v (.c (.ptr 12 0)), .v (.c (.ptr 117 0))], 504, .v (.c (.ptr 662 0)), l3, 1099⟩
private theorem s8_k : h9.rep l2 s8 = true := by kernel_rfl
private noncomputable def h10 : HK := h9.repl _ s8 s8_k
theorem TopTaintCalls_0_t_run : isBool true (runW h10.K 4 [mi 10 0, ab true] s0) = true := by kernel_rfl
theorem TopTaintCalls_0_t_law {args : Array Value} (ha : VAs (fun _ => none) [mi 10 0, ab true] args.toList) (w : World) (hT : Tab w) :
    Calls Tryz.prog 4 args w fun e w' => Below w.heap.size w w' ∧ e = .returned (.bool true) := h10.law TopTaintCalls_0_t_run ha w hT
end Go.Proofs.YteajpblmbmncdaaGreatDoor
