/- Tables of calls, and a run that uses them. -/
import Derived.Test.YteajpblmbmncdaaGreatDoorLn
namespace Go.Proofs.YteajpblmbmncdaaGreatDoor
open Go Go.RowKit Ev
set_option maxRecDepth 100000
set_option linter.unusedVariables false
private noncomputable abbrev i (n : Nat) : CV := .int .i64 (.ofNat n)
private noncomputable abbrev o (b a n : Nat) : CV := .slice b a n (.opn 0)
private noncomputable abbrev f (b a n : Nat) : CV := .slice b a n (.fix n)
private noncomputable abbrev e (k t : Nat) : Nat × BK := (k, ⟨[.snil], t, 0, none⟩)
private noncomputable abbrev l0 : Bls := [(1, ⟨[i 0, i 0, i 0, i 0, i 1, i 0], 69, 0, none⟩),
(2, ⟨[f 1 0 3], 47, 0, none⟩),
(4, ⟨[i 1, i 0], 69, 0, none⟩),
(5, ⟨[i 0, i 0], 69, 0, none⟩),
(7, ⟨[i 1, i 0], 69, 0, none⟩),
(9, ⟨[.snil, i 0, i 0, f 4 0 1, i 0, i 0, f 5 0 1, i 0, i 0, f 7 0 1, i 1, i 0], 72, 0, none⟩),
(10, ⟨[i 0], 3, 0, none⟩),
(11, ⟨[f 10 0 1], 74, 0, none⟩),
(12, ⟨[f 2 0 1, f 9 0 4, f 11 0 1, .snil, o 42 0 2, i 0], 57, 0, none⟩),
(23, ⟨[i 0, i 0, i 1, i 0, i 1, i 0], 69, 2, none⟩),
(24, ⟨[o 33 0 4, i 3, i 0, i 0, i 0], 46, 0, none⟩),
(29, ⟨[i 1], 3, 0, none⟩),
(33, ⟨[i 1, i 0, i 0, i 0, i 1, .snil, i 5, i 1, i 0, i 0, i 0, .snil, i 12, i 2, i 0, i 0, i 1, f 29 0 1, i 8, i 0, i 2, i 0, i 0, .snil], 29, 6, none⟩),
(39, ⟨[i 1, i 0, i 1, i 0], 69, 2, none⟩),
(40, ⟨[o 45 0 1, i 3, i 1, i 0, i 0], 46, 0, none⟩),
(42, ⟨[i 0, o 23 0 3, f 24 0 1, i 3, o 39 0 2, f 40 0 1], 50, 3, none⟩),
(45, ⟨[i 6, i 1, i 0, i 0, i 0, .snil], 29, 6, none⟩)]
private noncomputable abbrev l1 : Bls := [(46, ⟨[o 68 0 2, o 72 0 2, o 109 0 1, o 98 0 1, o 100 0 1, i 10], 230, 0, none⟩),
(54, ⟨[i 0, i 1, i 2], 3, 1, none⟩),
(66, ⟨[i 4, i 5], 3, 1, none⟩),
(68, ⟨[o 54 0 3, o 66 0 2], 27, 1, none⟩),
(72, ⟨[i 3, i 6], 3, 1, none⟩),
(98, ⟨[i 1], 3, 1, none⟩),
(100, ⟨[i 0], 3, 1, none⟩),
(107, ⟨[i 7, i 8, i 9], 3, 1, none⟩),
(109, ⟨[o 107 0 3], 27, 1, none⟩),
(135, ⟨[o 155 0 10], 233, 0, none⟩),
(155, ⟨[i 0, i 1, i 2, i 3, i 4, i 5, i 6, i 7, i 8, i 9], 3, 1, none⟩),
(156, ⟨[.snil, .snil, .snil, .snil, .snil, .snil, .snil, .snil, .snil, .snil], 238, 0, none⟩),
(157, ⟨[o 253 0 1], 139, 0, none⟩),
(158, ⟨[], 0, 0, some (.map [(0, .agg [i 2, i 1], .c (.bool true))] 1)⟩),
(159, ⟨[], 0, 0, some (.map [] 5)⟩),
(160, ⟨[.snil, o 714 0 0, .map 159, i 5], 237, 0, none⟩),
(161, ⟨[.ptr 12 0, .ptr 46 0, .ptr 135 0, o 245 0 10, o 248 0 10, o 251 0 10, f 156 0 10, .ptr 157 0, .map 158, .ptr 160 0], 145, 0, none⟩),
e 162 139,
e 165 139,
e 168 139,
(171, ⟨[o 418 0 1], 139, 0, none⟩),
(177, ⟨[o 424 0 1], 139, 0, none⟩),
(180, ⟨[o 817 0 1], 139, 0, none⟩),
e 186 139,
e 189 139,
e 192 139,
e 195 139,
(198, ⟨[o 426 0 1], 139, 0, none⟩),
(204, ⟨[o 702 0 1], 139, 0, none⟩),
(207, ⟨[o 704 0 1], 139, 0, none⟩),
(213, ⟨[o 710 0 1], 139, 0, none⟩),
(216, ⟨[o 712 0 1], 139, 0, none⟩),
(222, ⟨[o 432 0 1], 139, 0, none⟩),
e 225 139,
e 228 139,
e 231 139,
e 234 139,
e 237 139,
e 240 139,
e 243 139,
(245, ⟨[.ptr 162 0, .ptr 171 0, .ptr 180 0, .ptr 189 0, .ptr 198 0, .ptr 207 0, .ptr 216 0, .ptr 225 0, .ptr 234 0, .ptr 243 0], 136, 1, none⟩),
e 246 139,
(248, ⟨[.ptr 165 0, .ptr 789 0, .ptr 824 0, .ptr 192 0, .ptr 797 0, .ptr 805 0, .ptr 813 0, .ptr 228 0, .ptr 237 0, .ptr 246 0], 136, 1, none⟩),
e 249 139,
(251, ⟨[.ptr 168 0, .ptr 177 0, .ptr 186 0, .ptr 195 0, .ptr 204 0, .ptr 213 0, .ptr 222 0, .ptr 231 0, .ptr 240 0, .ptr 249 0], 136, 1, none⟩),
(253, ⟨[.int .u64 (.ofNat 3)], 224, 1, none⟩),
(418, ⟨[.int .u64 (.ofNat 1)], 224, 1, none⟩),
(424, ⟨[.int .u64 (.ofNat 16)], 224, 1, none⟩),
(426, ⟨[.int .u64 (.ofNat 1)], 224, 1, none⟩),
(432, ⟨[.int .u64 (.ofNat 4)], 224, 1, none⟩),
(702, ⟨[.int .u64 (.ofNat 32)], 224, 1, none⟩),
(704, ⟨[.int .u64 (.ofNat 1)], 224, 1, none⟩),
(710, ⟨[.int .u64 (.ofNat 64)], 224, 1, none⟩),
(712, ⟨[.int .u64 (.ofNat 1)], 224, 1, none⟩),
(714, ⟨[i 0, i 0, i 0, i 0], 3, 1, none⟩),
(788, ⟨[.int .u64 (.ofNat 1)], 224, 1, none⟩),
(789, ⟨[o 788 0 1], 139, 0, none⟩),
(796, ⟨[.int .u64 (.ofNat 1)], 224, 1, none⟩),
(797, ⟨[o 796 0 1], 139, 0, none⟩),
(804, ⟨[.int .u64 (.ofNat 1)], 224, 1, none⟩),
(805, ⟨[o 804 0 1], 139, 0, none⟩),
(812, ⟨[.int .u64 (.ofNat 1)], 224, 1, none⟩),
(813, ⟨[o 812 0 1], 139, 0, none⟩),
(817, ⟨[.int .u64 (.ofNat 1)], 224, 1, none⟩),
(823, ⟨[.int .u64 (.ofNat 1)], 224, 1, none⟩),
(824, ⟨[o 823 0 1], 139, 0, none⟩)]
private noncomputable abbrev l2 : Bls := [(1, ⟨[i 0, i 0, i 0, i 0, i 1, i 0], 69, 0, none⟩),
(2, ⟨[f 1 0 3], 47, 0, none⟩),
(4, ⟨[i 1, i 0], 69, 0, none⟩),
(5, ⟨[i 0, i 0], 69, 0, none⟩),
(7, ⟨[i 1, i 0], 69, 0, none⟩),
(9, ⟨[.snil, i 0, i 0, f 4 0 1, i 0, i 0, f 5 0 1, i 0, i 0, f 7 0 1, i 1, i 0], 72, 0, none⟩),
(10, ⟨[i 0], 3, 0, none⟩),
(11, ⟨[f 10 0 1], 74, 0, none⟩),
(12, ⟨[f 2 0 1, f 9 0 4, f 11 0 1, .snil, o 42 0 2, i 0], 57, 0, none⟩),
(23, ⟨[i 0, i 0, i 1, i 0, i 1, i 0], 69, 2, none⟩),
(24, ⟨[o 33 0 4, i 3, i 0, i 0, i 0], 46, 0, none⟩),
(29, ⟨[i 1], 3, 0, none⟩),
(33, ⟨[i 1, i 0, i 0, i 0, i 1, .snil, i 5, i 1, i 0, i 0, i 0, .snil, i 12, i 2, i 0, i 0, i 1, f 29 0 1, i 8, i 0, i 2, i 0, i 0, .snil], 29, 6, none⟩),
(39, ⟨[i 1, i 0, i 1, i 0], 69, 2, none⟩),
(40, ⟨[o 45 0 1, i 3, i 1, i 0, i 0], 46, 0, none⟩),
(42, ⟨[i 0, o 23 0 3, f 24 0 1, i 3, o 39 0 2, f 40 0 1], 50, 3, none⟩),
(45, ⟨[i 6, i 1, i 0, i 0, i 0, .snil], 29, 6, none⟩),
(46, ⟨[o 68 0 2, o 72 0 2, o 109 0 1, o 98 0 1, o 100 0 1, i 10], 230, 0, none⟩),
(54, ⟨[i 0, i 1, i 2], 3, 1, none⟩),
(66, ⟨[i 4, i 5], 3, 1, none⟩),
(68, ⟨[o 54 0 3, o 66 0 2], 27, 1, none⟩),
(72, ⟨[i 3, i 6], 3, 1, none⟩),
(98, ⟨[i 1], 3, 1, none⟩),
(100, ⟨[i 0], 3, 1, none⟩),
(107, ⟨[i 7, i 8, i 9], 3, 1, none⟩),
(109, ⟨[o 107 0 3], 27, 1, none⟩),
(135, ⟨[o 155 0 10], 233, 0, none⟩),
(155, ⟨[i 0, i 1, i 2, i 3, i 4, i 5, i 6, i 7, i 8, i 9], 3, 1, none⟩),
(156, ⟨[.snil, .snil, .snil, .snil, .snil, .snil, .snil, .snil, .snil, .snil], 238, 0, none⟩),
(157, ⟨[o 253 0 1], 139, 0, none⟩),
(158, ⟨[], 0, 0, some (.map [(0, .agg [i 2, i 1], .c (.bool true))] 1)⟩),
(159, ⟨[], 0, 0, some (.map [] 5)⟩),
(160, ⟨[.snil, o 714 0 0, .map 159, i 5], 237, 0, none⟩),
(161, ⟨[.ptr 12 0, .ptr 46 0, .ptr 135 0, o 245 0 10, o 248 0 10, o 251 0 10, f 156 0 10, .ptr 157 0, .map 158, .ptr 160 0], 145, 0, none⟩),
e 162 139,
e 165 139,
e 168 139,
(171, ⟨[o 418 0 1], 139, 0, none⟩),
(177, ⟨[o 424 0 1], 139, 0, none⟩),
(180, ⟨[o 817 0 1], 139, 0, none⟩),
e 186 139,
e 189 139,
e 192 139,
e 195 139,
(198, ⟨[o 426 0 1], 139, 0, none⟩),
(204, ⟨[o 702 0 1], 139, 0, none⟩),
(207, ⟨[o 704 0 1], 139, 0, none⟩),
(213, ⟨[o 710 0 1], 139, 0, none⟩),
(216, ⟨[o 712 0 1], 139, 0, none⟩),
(222, ⟨[o 432 0 1], 139, 0, none⟩),
e 225 139,
e 228 139,
e 231 139,
e 234 139,
e 237 139,
e 240 139,
e 243 139,
(245, ⟨[.ptr 162 0, .ptr 171 0, .ptr 180 0, .ptr 189 0, .ptr 198 0, .ptr 207 0, .ptr 216 0, .ptr 225 0, .ptr 234 0, .ptr 243 0], 136, 1, none⟩),
e 246 139,
(248, ⟨[.ptr 165 0, .ptr 789 0, .ptr 824 0, .ptr 192 0, .ptr 797 0, .ptr 805 0, .ptr 813 0, .ptr 228 0, .ptr 237 0, .ptr 246 0], 136, 1, none⟩),
e 249 139,
(251, ⟨[.ptr 168 0, .ptr 177 0, .ptr 186 0, .ptr 195 0, .ptr 204 0, .ptr 213 0, .ptr 222 0, .ptr 231 0, .ptr 240 0, .ptr 249 0], 136, 1, none⟩),
(253, ⟨[.int .u64 (.ofNat 3)], 224, 1, none⟩),
(418, ⟨[.int .u64 (.ofNat 1)], 224, 1, none⟩),
(424, ⟨[.int .u64 (.ofNat 16)], 224, 1, none⟩),
(426, ⟨[.int .u64 (.ofNat 1)], 224, 1, none⟩),
(432, ⟨[.int .u64 (.ofNat 4)], 224, 1, none⟩),
(702, ⟨[.int .u64 (.ofNat 32)], 224, 1, none⟩),
(704, ⟨[.int .u64 (.ofNat 1)], 224, 1, none⟩),
(710, ⟨[.int .u64 (.ofNat 64)], 224, 1, none⟩),
(712, ⟨[.int .u64 (.ofNat 1)], 224, 1, none⟩),
(714, ⟨[i 0, i 0, i 0, i 0], 3, 1, none⟩),
(788, ⟨[.int .u64 (.ofNat 1)], 224, 1, none⟩),
(789, ⟨[o 788 0 1], 139, 0, none⟩),
(796, ⟨[.int .u64 (.ofNat 1)], 224, 1, none⟩),
(797, ⟨[o 796 0 1], 139, 0, none⟩),
(804, ⟨[.int .u64 (.ofNat 1)], 224, 1, none⟩),
(805, ⟨[o 804 0 1], 139, 0, none⟩),
(812, ⟨[.int .u64 (.ofNat 1)], 224, 1, none⟩),
(813, ⟨[o 812 0 1], 139, 0, none⟩),
(817, ⟨[.int .u64 (.ofNat 1)], 224, 1, none⟩),
(823, ⟨[.int .u64 (.ofNat 1)], 224, 1, none⟩),
(824, ⟨[o 823 0 1], 139, 0, none⟩)]
private noncomputable abbrev l3 : Bls := [(1059, ⟨[], 0, 0, some (.map [(0, .agg [i 4, i 0, i 0, i 1, i 0], .c (o 1565 0 1)), (1, .agg [i 4, i 0, i 0, i 1, i 1], .c (o 1580 0 1)), (2, .agg [i 4, i 0, i 0, i 1, i 2], .c (o 1595 0 1)), (3, .agg [i 1, i 1, i 0, i 0, i 0], .c (o 1627 0 1)), (4, .agg [i 5, i 1, i 0, i 0, i 0], .c (o 1632 0 1)), (5, .agg [i 1, i 0, i 0, i 0, i 0], .c (o 1747 0 2)), (6, .agg [i 3, i 1, i 0, i 1, i 0], .c (o 1702 0 1)), (7, .agg [i 3, i 3, i 0, i 1, i 0], .c (o 1762 0 1)), (8, .agg [i 3, i 1, i 0, i 1, i 1], .c (o 1781 0 1)), (9, .agg [i 3, i 1, i 0, i 1, i 2], .c (o 1800 0 1)), (10, .agg [i 2, i 1, i 0, i 0, i 0], .c (o 1820 0 1)), (11, .agg [i 1, i 5, i 0, i 0, i 0], .c (o 1844 0 1))] 12)⟩),
(1060, ⟨[.map 1059, .md 1 (.ofNat 0) true], 155, 0, none⟩),
(1565, ⟨[i 3, i 1, i 0, i 1, i 0], 116, 5, none⟩),
(1580, ⟨[i 3, i 1, i 0, i 1, i 1], 116, 5, none⟩),
(1595, ⟨[i 3, i 1, i 0, i 1, i 2], 116, 5, none⟩),
(1627, ⟨[i 2, i 1, i 0, i 0, i 0], 116, 5, none⟩),
(1632, ⟨[i 1, i 2, i 0, i 0, i 0], 116, 5, none⟩),
(1702, ⟨[i 3, i 3, i 0, i 1, i 0], 116, 5, none⟩),
(1747, ⟨[i 3, i 3, i 0, i 1, i 0, i 5, i 0, i 0, i 0, i 0], 116, 5, none⟩),
(1762, ⟨[i 6, i 0, i 0, i 1, i 0], 116, 5, none⟩),
(1781, ⟨[i 6, i 0, i 0, i 1, i 1], 116, 5, none⟩),
(1800, ⟨[i 6, i 0, i 0, i 1, i 2], 116, 5, none⟩),
(1820, ⟨[i 1, i 5, i 0, i 0, i 0], 116, 5, none⟩),
(1844, ⟨[i 5, i 1, i 0, i 0, i 0], 116, 5, none⟩)]
private noncomputable def m0 : MM := ⟨[48], l0, 46, [⟨48, 0, [.v (.c (.ptr 12 0))], .v (.c (.nili))⟩]⟩
private theorem m0_k : H0.tbl m0 = true := by kernel_rfl
private noncomputable def h1 : HK := H0.memo m0 m0_k
private noncomputable def m1 : MM := ⟨[155], [(12, ⟨[f 2 0 1, f 9 0 4, f 11 0 1, .snil, o 42 0 2, i 0], 57, 0, none⟩),
(24, ⟨[o 33 0 4, i 3, i 0, i 0, i 0], 46, 0, none⟩),
(40, ⟨[o 45 0 1, i 3, i 1, i 0, i 0], 46, 0, none⟩),
(42, ⟨[i 0, o 23 0 3, f 24 0 1, i 3, o 39 0 2, f 40 0 1], 50, 3, none⟩)], 89, [⟨155, 0, [.v (.c (.ptr 12 0)), .v (.c (i 0))], .tup [.agg [i 0, i 0, i 0], .c (.bool true)]⟩,
⟨155, 1, [.v (.c (.ptr 12 0)), .v (.c (i 1))], .tup [.agg [i 0, i 0, i 1], .c (.bool true)]⟩,
⟨155, 2, [.v (.c (.ptr 12 0)), .v (.c (i 2))], .tup [.agg [i 0, i 0, i 2], .c (.bool true)]⟩,
⟨155, 3, [.v (.c (.ptr 12 0)), .v (.c (i 3))], .tup [.agg [i 0, i 0, i 3], .c (.bool true)]⟩,
⟨155, 4, [.v (.c (.ptr 12 0)), .v (.c (i 4))], .tup [.agg [i 0, i 0, i 4], .c (.bool true)]⟩,
⟨155, 5, [.v (.c (.ptr 12 0)), .v (.c (i 5))], .tup [.agg [i 1, i 0, i 0], .c (.bool true)]⟩,
⟨155, 6, [.v (.c (.ptr 12 0)), .v (.c (i 6))], .tup [.agg [i 1, i 0, i 1], .c (.bool true)]⟩]⟩
private theorem m1_k : h1.tbl m1 = true := by kernel_rfl
private noncomputable def h2 : HK := h1.memo m1 m1_k
private noncomputable def s1 : RE := ⟨76, [.v (.c (.ptr 12 0))], 46, .v (.c (.ptr 46 0)), [(46, ⟨[o 68 0 2, o 72 0 2, o 109 0 1, o 98 0 1, o 100 0 1, i 10], 230, 0, none⟩),
(54, ⟨[i 0, i 1, i 2], 3, 1, none⟩),
(66, ⟨[i 4, i 5], 3, 1, none⟩),
(68, ⟨[o 54 0 3, o 66 0 2], 27, 1, none⟩),
(72, ⟨[i 3, i 6], 3, 1, none⟩),
(98, ⟨[i 1], 3, 1, none⟩),
(100, ⟨[i 0], 3, 1, none⟩),
(107, ⟨[i 7, i 8, i 9], 3, 1, none⟩),
(109, ⟨[o 107 0 3], 27, 1, none⟩)], 135⟩
private theorem s1_k : h2.srp l0 s1 = true := by kernel_rfl
private noncomputable def h3 : HK := h2.srep _ s1 s1_k
private noncomputable def s2 : RE := ⟨49, [.v (.c (.ptr 12 0)), .v (.c (.snil))], 46, .v (.c (.ptr 161 0)), l1, 825⟩
private theorem s2_k : h3.rep l0 s2 = true := by kernel_rfl
private noncomputable def h4 : HK := h3.repl _ s2 s2_k
private noncomputable def s3 : RE := ⟨151, [.v (.c (.ptr 12 0)), .v (.c (.ptr 161 0)), .v (.c (i 2))], 933, .v (.c (.snil)), [], 997⟩
private theorem s3_k : h4.srp l2 s3 = true := by kernel_rfl
private noncomputable def h5 : HK := h4.srep _ s3 s3_k
private noncomputable def s4 : RE := ⟨85, [.v (.c (.ptr 12 0)), .v (.c (.ptr 161 0)), .v (.c (i 0))], 1062, .v (.c (o 1137 0 3)), [(1137, ⟨[i 1, i 0, i 1, i 1, i 1, i 2, i 0, i 0], 114, 2, none⟩)], 1248⟩
private theorem s4_k : h5.srp l2 s4 = true := by kernel_rfl
private noncomputable def h6 : HK := h5.srep _ s4 s4_k
private noncomputable def s5 : RE := ⟨86, [.v (.c (.ptr 12 0)), .v (.c (.ptr 161 0)), .v (.c (i 0))], 1250, .v (.c (o 1325 0 3)), [(1325, ⟨[i 1, i 0, i 1, i 1, i 1, i 2, i 0, i 0], 114, 2, none⟩)], 1356⟩
private theorem s5_k : h6.srp l2 s5 = true := by kernel_rfl
private noncomputable def h7 : HK := h6.srep _ s5 s5_k
private noncomputable def s6 : RE := ⟨85, [.v (.c (.ptr 12 0)), .v (.c (.ptr 161 0)), .v (.c (i 1))], 1358, .v (.c (.snil)), [], 1464⟩
private theorem s6_k : h7.srp l2 s6 = true := by kernel_rfl
private noncomputable def h8 : HK := h7.srep _ s6 s6_k
private noncomputable def s7 : RE := ⟨86, [.v (.c (.ptr 12 0)), .v (.c (.ptr 161 0)), .v (.c (i 1))], 1466, .v (.c (.snil)), [], 1519⟩
private theorem s7_k : h8.srp l2 s7 = true := by kernel_rfl
private noncomputable def h9 : HK := h8.srep _ s7 s7_k
private noncomputable def s8 : RE := ⟨50, [.v (.c (.ptr 12 0)), .v (.c (.ptr 161 0))], 825, .v (.c (.ptr 1060 0)), l3, 1846⟩
private theorem s8_k : h9.rep l2 s8 = true := by kernel_rfl
private noncomputable def h10 : HK := h9.repl _ s8 s8_k
theorem TopNilReturn_0_f_run : isBool true (runW h10.K 13 [mi 8 0, ab false] s0) = true := by kernel_rfl
theorem TopNilReturn_0_f_law {args : Array Value} (ha : VAs (fun _ => none) [mi 8 0, ab false] args.toList) (w : World) (hT : Tab w) :
    Calls Tryz.prog 13 args w fun e w' => Below w.heap.size w w' ∧ e = .returned (.bool true) := h10.law TopNilReturn_0_f_run ha w hT
end Go.Proofs.YteajpblmbmncdaaGreatDoor
