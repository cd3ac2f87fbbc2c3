/- Tables of calls, and a run that uses them. -/
import Derived.Test.YtjbnkokcbhfdgabGreatDoorLn22
namespace Go.Proofs.YtjbnkokcbhfdgabGreatDoor
open Go Go.RowKit Ev
set_option maxRecDepth 100000
set_option linter.unusedVariables false
private noncomputable abbrev i (n : Nat) : CV := .int .i64 (.ofNat n)
private noncomputable abbrev o (b a n : Nat) : CV := .slice b a n (.opn 0)
private noncomputable abbrev f (b a n : Nat) : CV := .slice b a n (.fix n)
private noncomputable abbrev e (k t : Nat) : Nat × BK := (k, ⟨[.snil], t, 0, none⟩)
private noncomputable abbrev l0 : Bls := [(0, ⟨[.snil, i 0, i 0], 89, 0, none⟩),
(3, ⟨[o 35 0 14, i 3, i 0, i 0, i 0], 41, 0, none⟩),
(4, ⟨[i 0, o 9 0 2, f 3 0 1], 38, 0, none⟩),
(5, ⟨[f 7 0 1, f 0 0 1, .snil, .snil, f 4 0 1, i 0], 34, 0, none⟩),
(6, ⟨[i 0, i 0, i 0, i 0], 26, 0, none⟩),
(7, ⟨[f 6 0 2], 27, 0, none⟩),
(9, ⟨[i 0, i 0, i 1, i 0], 26, 2, none⟩),
(35, ⟨[i 1, i 0, i 0, i 0, i 7, .snil, i 5, i 1, i 0, i 0, i 0, .snil, i 8, i 0, i 1, i 0, i 0, .snil, i 8, i 0, i 1, i 0, i 1, .snil, i 8, i 0, i 1, i 0, i 0, .snil, i 8, i 0, i 1, i 0, i 1, .snil, i 8, i 0, i 1, i 0, i 0, .snil, i 8, i 0, i 1, i 0, i 1, .snil, i 8, i 0, i 1, i 0, i 0, .snil, i 8, i 0, i 1, i 0, i 1, .snil, i 8, i 0, i 1, i 0, i 0, .snil, i 8, i 0, i 1, i 0, i 1, .snil, i 8, i 0, i 1, i 0, i 0, .snil, i 8, i 0, i 1, i 0, i 1, .snil], 44, 6, none⟩)]
private noncomputable abbrev l1 : Bls := [(36, ⟨[o 44 0 1, o 48 0 1, o 99 0 1, o 90 0 1, o 92 0 1, i 5], 150, 0, none⟩),
(42, ⟨[i 0, i 1], 3, 1, none⟩),
(44, ⟨[o 42 0 2], 42, 1, none⟩),
(48, ⟨[i 2], 3, 1, none⟩),
(90, ⟨[i 1], 3, 1, none⟩),
(92, ⟨[i 0], 3, 1, none⟩),
(97, ⟨[i 3, i 4], 3, 1, none⟩),
(99, ⟨[o 97 0 2], 42, 1, none⟩),
(165, ⟨[o 175 0 5], 157, 0, none⟩),
(175, ⟨[i 0, i 1, i 2, i 3, i 4], 3, 1, none⟩),
(176, ⟨[.snil, .snil, .snil, .snil, .snil], 162, 0, none⟩),
(177, ⟨[o 228 0 1], 99, 0, none⟩),
(178, ⟨[], 0, 0, some (.map [] 0)⟩),
(179, ⟨[], 0, 0, some (.map [] 1)⟩),
(180, ⟨[.snil, o 522 0 0, .map 179, i 1], 161, 0, none⟩),
(181, ⟨[.ptr 5 0, .ptr 36 0, .ptr 165 0, o 220 0 5, o 223 0 5, o 226 0 5, f 176 0 5, .ptr 177 0, .map 178, .ptr 180 0], 105, 0, none⟩),
e 182 99,
e 185 99,
e 188 99,
(191, ⟨[o 520 0 1], 99, 0, none⟩),
e 197 99,
e 200 99,
e 203 99,
e 206 99,
e 209 99,
e 212 99,
e 215 99,
e 218 99,
(220, ⟨[.ptr 182 0, .ptr 191 0, .ptr 200 0, .ptr 209 0, .ptr 218 0], 96, 1, none⟩),
e 221 99,
(223, ⟨[.ptr 185 0, .ptr 633 0, .ptr 203 0, .ptr 212 0, .ptr 221 0], 96, 1, none⟩),
e 224 99,
(226, ⟨[.ptr 188 0, .ptr 197 0, .ptr 206 0, .ptr 215 0, .ptr 224 0], 96, 1, none⟩),
(228, ⟨[.int .u64 (.ofNat 1)], 229, 1, none⟩),
(520, ⟨[.int .u64 (.ofNat 1)], 229, 1, none⟩),
(522, ⟨[i 0], 3, 1, none⟩),
(632, ⟨[.int .u64 (.ofNat 1)], 229, 1, none⟩),
(633, ⟨[o 632 0 1], 99, 0, none⟩)]
private noncomputable abbrev l2 : Bls := [(636, ⟨[.ptr 5 0, .ptr 181 0, o 1083 0 15, o 730 0 1], 178, 0, none⟩),
(639, ⟨[i 0, f 641 0 15], 258, 0, none⟩),
(641, ⟨[.snil, o 647 0 1, o 653 0 1, o 659 0 1, o 665 0 1, o 671 0 1, o 677 0 1, o 683 0 1, o 689 0 1, o 695 0 1, o 701 0 1, o 707 0 1, o 713 0 1, o 719 0 1, o 725 0 1], 42, 0, none⟩),
(647, ⟨[i 0], 3, 1, none⟩),
(653, ⟨[i 1], 3, 1, none⟩),
(659, ⟨[i 2], 3, 1, none⟩),
(665, ⟨[i 3], 3, 1, none⟩),
(671, ⟨[i 4], 3, 1, none⟩),
(677, ⟨[i 5], 3, 1, none⟩),
(683, ⟨[i 6], 3, 1, none⟩),
(689, ⟨[i 7], 3, 1, none⟩),
(695, ⟨[i 8], 3, 1, none⟩),
(701, ⟨[i 9], 3, 1, none⟩),
(707, ⟨[i 10], 3, 1, none⟩),
(713, ⟨[i 11], 3, 1, none⟩),
(719, ⟨[i 12], 3, 1, none⟩),
(725, ⟨[i 13], 3, 1, none⟩),
(730, ⟨[.ptr 639 0], 179, 1, none⟩),
(762, ⟨[], 0, 0, some (.map [] 0)⟩),
(775, ⟨[], 0, 0, some (.map [(0, .agg [i 1, i 0], .c (.bool true)), (1, .agg [i 1, i 1], .c (.bool true))] 2)⟩),
(797, ⟨[], 0, 0, some (.map [(0, .agg [i 1, i 0], .c (.bool true))] 1)⟩),
(820, ⟨[], 0, 0, some (.map [(0, .agg [i 1, i 1], .c (.bool true))] 1)⟩),
(843, ⟨[], 0, 0, some (.map [(0, .agg [i 1, i 0], .c (.bool true))] 1)⟩),
(866, ⟨[], 0, 0, some (.map [(0, .agg [i 1, i 1], .c (.bool true))] 1)⟩),
(889, ⟨[], 0, 0, some (.map [(0, .agg [i 1, i 0], .c (.bool true))] 1)⟩),
(912, ⟨[], 0, 0, some (.map [(0, .agg [i 1, i 1], .c (.bool true))] 1)⟩),
(935, ⟨[], 0, 0, some (.map [(0, .agg [i 1, i 0], .c (.bool true))] 1)⟩),
(958, ⟨[], 0, 0, some (.map [(0, .agg [i 1, i 1], .c (.bool true))] 1)⟩),
(981, ⟨[], 0, 0, some (.map [(0, .agg [i 1, i 0], .c (.bool true))] 1)⟩),
(1004, ⟨[], 0, 0, some (.map [(0, .agg [i 1, i 1], .c (.bool true))] 1)⟩),
(1027, ⟨[], 0, 0, some (.map [(0, .agg [i 1, i 0], .c (.bool true))] 1)⟩),
(1050, ⟨[], 0, 0, some (.map [(0, .agg [i 1, i 1], .c (.bool true))] 1)⟩),
(1073, ⟨[], 0, 0, some (.map [] 0)⟩),
(1083, ⟨[.map 762, .map 775, .map 797, .map 820, .map 843, .map 866, .map 889, .map 912, .map 935, .map 958, .map 981, .map 1004, .map 1027, .map 1050, .map 1073], 181, 1, none⟩)]
private noncomputable abbrev l3 : Bls := [(0, ⟨[.snil, i 0, i 0], 89, 0, none⟩),
(3, ⟨[o 35 0 14, i 3, i 0, i 0, i 0], 41, 0, none⟩),
(4, ⟨[i 0, o 9 0 2, f 3 0 1], 38, 0, none⟩),
(5, ⟨[f 7 0 1, f 0 0 1, .snil, .snil, f 4 0 1, i 0], 34, 0, none⟩),
(6, ⟨[i 0, i 0, i 0, i 0], 26, 0, none⟩),
(7, ⟨[f 6 0 2], 27, 0, none⟩),
(9, ⟨[i 0, i 0, i 1, i 0], 26, 2, none⟩),
(35, ⟨[i 1, i 0, i 0, i 0, i 7, .snil, i 5, i 1, i 0, i 0, i 0, .snil, i 8, i 0, i 1, i 0, i 0, .snil, i 8, i 0, i 1, i 0, i 1, .snil, i 8, i 0, i 1, i 0, i 0, .snil, i 8, i 0, i 1, i 0, i 1, .snil, i 8, i 0, i 1, i 0, i 0, .snil, i 8, i 0, i 1, i 0, i 1, .snil, i 8, i 0, i 1, i 0, i 0, .snil, i 8, i 0, i 1, i 0, i 1, .snil, i 8, i 0, i 1, i 0, i 0, .snil, i 8, i 0, i 1, i 0, i 1, .snil, i 8, i 0, i 1, i 0, i 0, .snil, i 8, i 0, i 1, i 0, i 1, .snil], 44, 6, none⟩),
(36, ⟨[o 44 0 1, o 48 0 1, o 99 0 1, o 90 0 1, o 92 0 1, i 5], 150, 0, none⟩),
(42, ⟨[i 0, i 1], 3, 1, none⟩),
(44, ⟨[o 42 0 2], 42, 1, none⟩),
(48, ⟨[i 2], 3, 1, none⟩),
(90, ⟨[i 1], 3, 1, none⟩),
(92, ⟨[i 0], 3, 1, none⟩),
(97, ⟨[i 3, i 4], 3, 1, none⟩),
(99, ⟨[o 97 0 2], 42, 1, none⟩),
(165, ⟨[o 175 0 5], 157, 0, none⟩),
(175, ⟨[i 0, i 1, i 2, i 3, i 4], 3, 1, none⟩),
(176, ⟨[.snil, .snil, .snil, .snil, .snil], 162, 0, none⟩),
(177, ⟨[o 228 0 1], 99, 0, none⟩),
(178, ⟨[], 0, 0, some (.map [] 0)⟩),
(179, ⟨[], 0, 0, some (.map [] 1)⟩),
(180, ⟨[.snil, o 522 0 0, .map 179, i 1], 161, 0, none⟩),
(181, ⟨[.ptr 5 0, .ptr 36 0, .ptr 165 0, o 220 0 5, o 223 0 5, o 226 0 5, f 176 0 5, .ptr 177 0, .map 178, .ptr 180 0], 105, 0, none⟩),
e 182 99,
e 185 99,
e 188 99,
(191, ⟨[o 520 0 1], 99, 0, none⟩),
e 197 99,
e 200 99,
e 203 99,
e 206 99,
e 209 99,
e 212 99,
e 215 99,
e 218 99,
(220, ⟨[.ptr 182 0, .ptr 191 0, .ptr 200 0, .ptr 209 0, .ptr 218 0], 96, 1, none⟩),
e 221 99,
(223, ⟨[.ptr 185 0, .ptr 633 0, .ptr 203 0, .ptr 212 0, .ptr 221 0], 96, 1, none⟩),
e 224 99,
(226, ⟨[.ptr 188 0, .ptr 197 0, .ptr 206 0, .ptr 215 0, .ptr 224 0], 96, 1, none⟩),
(228, ⟨[.int .u64 (.ofNat 1)], 229, 1, none⟩),
(520, ⟨[.int .u64 (.ofNat 1)], 229, 1, none⟩),
(522, ⟨[i 0], 3, 1, none⟩),
(632, ⟨[.int .u64 (.ofNat 1)], 229, 1, none⟩),
(633, ⟨[o 632 0 1], 99, 0, none⟩)]
private noncomputable def m0 : MM := ⟨[56], l0, 36, [⟨56, 0, [.v (.c (.ptr 5 0))], .v (.c (.nili))⟩]⟩
private theorem m0_k : H0.tbl m0 = true := by kernel_rfl
private noncomputable def h1 : HK := H0.memo m0 m0_k
private noncomputable def m1 : MM := ⟨[91], [(3, ⟨[o 35 0 14, i 3, i 0, i 0, i 0], 41, 0, none⟩),
(4, ⟨[i 0, o 9 0 2, f 3 0 1], 38, 0, none⟩),
(5, ⟨[f 7 0 1, f 0 0 1, .snil, .snil, f 4 0 1, i 0], 34, 0, none⟩)], 81, [⟨91, 0, [.v (.c (.ptr 5 0)), .v (.c (i 0))], .tup [.agg [i 0, i 0, i 0], .c (.bool true)]⟩,
⟨91, 1, [.v (.c (.ptr 5 0)), .v (.c (i 1))], .tup [.agg [i 0, i 0, i 1], .c (.bool true)]⟩,
⟨91, 2, [.v (.c (.ptr 5 0)), .v (.c (i 2))], .tup [.agg [i 0, i 0, i 2], .c (.bool true)]⟩,
⟨91, 3, [.v (.c (.ptr 5 0)), .v (.c (i 3))], .tup [.agg [i 0, i 0, i 3], .c (.bool true)]⟩,
⟨91, 4, [.v (.c (.ptr 5 0)), .v (.c (i 4))], .tup [.agg [i 0, i 0, i 4], .c (.bool true)]⟩,
⟨91, 5, [.v (.c (.ptr 5 0)), .v (.c (i 5))], .tup [.agg [i 0, i 0, i 5], .c (.bool true)]⟩,
⟨91, 6, [.v (.c (.ptr 5 0)), .v (.c (i 6))], .tup [.agg [i 0, i 0, i 6], .c (.bool true)]⟩,
⟨91, 7, [.v (.c (.ptr 5 0)), .v (.c (i 7))], .tup [.agg [i 0, i 0, i 7], .c (.bool true)]⟩,
⟨91, 8, [.v (.c (.ptr 5 0)), .v (.c (i 8))], .tup [.agg [i 0, i 0, i 8], .c (.bool true)]⟩,
⟨91, 9, [.v (.c (.ptr 5 0)), .v (.c (i 9))], .tup [.agg [i 0, i 0, i 9], .c (.bool true)]⟩,
⟨91, 10, [.v (.c (.ptr 5 0)), .v (.c (i 10))], .tup [.agg [i 0, i 0, i 10], .c (.bool true)]⟩,
⟨91, 11, [.v (.c (.ptr 5 0)), .v (.c (i 11))], .tup [.agg [i 0, i 0, i 11], .c (.bool true)]⟩,
⟨91, 12, [.v (.c (.ptr 5 0)), .v (.c (i 12))], .tup [.agg [i 0, i 0, i 12], .c (.bool true)]⟩,
⟨91, 13, [.v (.c (.ptr 5 0)), .v (.c (i 13))], .tup [.agg [i 0, i 0, i 13], .c (.bool true)]⟩,
⟨91, 14, [.v (.c (.ptr 5 0)), .v (.c (i 14))], .tup [.agg [i 0, i 0, i 14], .c (.bool true)]⟩]⟩
private theorem m1_k : h1.tbl m1 = true := by kernel_rfl
private noncomputable def h2 : HK := h1.memo m1 m1_k
private noncomputable def s1 : RE := ⟨35, [.v (.c (.ptr 5 0))], 36, .v (.c (.ptr 36 0)), [(36, ⟨[o 44 0 1, o 48 0 1, o 99 0 1, o 90 0 1, o 92 0 1, i 5], 150, 0, none⟩),
(42, ⟨[i 0, i 1], 3, 1, none⟩),
(44, ⟨[o 42 0 2], 42, 1, none⟩),
(48, ⟨[i 2], 3, 1, none⟩),
(90, ⟨[i 1], 3, 1, none⟩),
(92, ⟨[i 0], 3, 1, none⟩),
(97, ⟨[i 3, i 4], 3, 1, none⟩),
(99, ⟨[o 97 0 2], 42, 1, none⟩)], 165⟩
private theorem s1_k : h2.srp l0 s1 = true := by kernel_rfl
private noncomputable def h3 : HK := h2.srep _ s1 s1_k
private noncomputable def s2 : RE := ⟨9, [.v (.c (.ptr 5 0)), .v (.c (.snil))], 36, .v (.c (.ptr 181 0)), l1, 634⟩
private theorem s2_k : h3.rep l0 s2 = true := by kernel_rfl
private noncomputable def h4 : HK := h3.repl _ s2 s2_k
private noncomputable def s3 : RE := ⟨43, [.v (.c (.ptr 5 0)), .v (.c (.ptr 181 0))], 636, .v (.c (.ptr 636 0)), l2, 1084⟩
private theorem s3_k : h4.srp l3 s3 = true := by kernel_rfl
private noncomputable def h5 : HK := h4.srep _ s3 s3_k
private noncomputable def s4 : RE := ⟨11, [.v (.c (.ptr 5 0)), .v (.c (.ptr 181 0)), .v (.c (i 0))], 1554, .v (.c (o 1795 0 2)), [(1795, ⟨[i 1, i 0, i 1, i 1, i 0, i 0, i 0, i 0, i 0, i 0, i 0, i 0, i 0, i 0, i 0, i 0, i 0, i 0, i 0, i 0, i 0, i 0, i 0, i 0, i 0, i 0, i 0, i 0], 48, 2, none⟩)], 2008⟩
private theorem s4_k : h5.srp l3 s4 = true := by kernel_rfl
private noncomputable def h6 : HK := h5.srep _ s4 s4_k
theorem MemoryStores_12_0_run : isBool true (runW h6.K 3 [ai (Int.ofNat 12), ai (Int.ofNat 0)] s0) = true := by kernel_rfl
theorem MemoryStores_12_0_law {args : Array Value} (ha : VAs (fun _ => none) [ai (Int.ofNat 12), ai (Int.ofNat 0)] args.toList) (w : World) (hT : Tab w) :
    Calls Tryz.prog 3 args w fun e w' => Below w.heap.size w w' ∧ e = .returned (.bool true) := h6.law MemoryStores_12_0_run ha w hT
theorem MemoryStores_12_1_run : isBool true (runW h6.K 3 [ai (Int.ofNat 12), ai (Int.ofNat 1)] s0) = true := by kernel_rfl
theorem MemoryStores_12_1_law {args : Array Value} (ha : VAs (fun _ => none) [ai (Int.ofNat 12), ai (Int.ofNat 1)] args.toList) (w : World) (hT : Tab w) :
    Calls Tryz.prog 3 args w fun e w' => Below w.heap.size w w' ∧ e = .returned (.bool true) := h6.law MemoryStores_12_1_run ha w hT
theorem MemoryStores_12_2_run : isBool true (runW h6.K 3 [ai (Int.ofNat 12), ai (Int.ofNat 2)] s0) = true := by kernel_rfl
theorem MemoryStores_12_2_law {args : Array Value} (ha : VAs (fun _ => none) [ai (Int.ofNat 12), ai (Int.ofNat 2)] args.toList) (w : World) (hT : Tab w) :
    Calls Tryz.prog 3 args w fun e w' => Below w.heap.size w w' ∧ e = .returned (.bool true) := h6.law MemoryStores_12_2_run ha w hT
theorem MemoryStores_12_3_run : isBool true (runW h6.K 3 [ai (Int.ofNat 12), ai (Int.ofNat 3)] s0) = true := by kernel_rfl
theorem MemoryStores_12_3_law {args : Array Value} (ha : VAs (fun _ => none) [ai (Int.ofNat 12), ai (Int.ofNat 3)] args.toList) (w : World) (hT : Tab w) :
    Calls Tryz.prog 3 args w fun e w' => Below w.heap.size w w' ∧ e = .returned (.bool true) := h6.law MemoryStores_12_3_run ha w hT
theorem MemoryStores_12_4_run : isBool true (runW h6.K 3 [ai (Int.ofNat 12), ai (Int.ofNat 4)] s0) = true := by kernel_rfl
theorem MemoryStores_12_4_law {args : Array Value} (ha : VAs (fun _ => none) [ai (Int.ofNat 12), ai (Int.ofNat 4)] args.toList) (w : World) (hT : Tab w) :
    Calls Tryz.prog 3 args w fun e w' => Below w.heap.size w w' ∧ e = .returned (.bool true) := h6.law MemoryStores_12_4_run ha w hT
theorem MemoryStores_12_5_run : isBool true (runW h6.K 3 [ai (Int.ofNat 12), ai (Int.ofNat 5)] s0) = true := by kernel_rfl
theorem MemoryStores_12_5_law {args : Array Value} (ha : VAs (fun _ => none) [ai (Int.ofNat 12), ai (Int.ofNat 5)] args.toList) (w : World) (hT : Tab w) :
    Calls Tryz.prog 3 args w fun e w' => Below w.heap.size w w' ∧ e = .returned (.bool true) := h6.law MemoryStores_12_5_run ha w hT
theorem MemoryStores_12_6_run : isBool true (runW h6.K 3 [ai (Int.ofNat 12), ai (Int.ofNat 6)] s0) = true := by kernel_rfl
theorem MemoryStores_12_6_law {args : Array Value} (ha : VAs (fun _ => none) [ai (Int.ofNat 12), ai (Int.ofNat 6)] args.toList) (w : World) (hT : Tab w) :
    Calls Tryz.prog 3 args w fun e w' => Below w.heap.size w w' ∧ e = .returned (.bool true) := h6.law MemoryStores_12_6_run ha w hT
theorem MemoryStores_12_7_run : isBool true (runW h6.K 3 [ai (Int.ofNat 12), ai (Int.ofNat 7)] s0) = true := by kernel_rfl
theorem MemoryStores_12_7_law {args : Array Value} (ha : VAs (fun _ => none) [ai (Int.ofNat 12), ai (Int.ofNat 7)] args.toList) (w : World) (hT : Tab w) :
    Calls Tryz.prog 3 args w fun e w' => Below w.heap.size w w' ∧ e = .returned (.bool true) := h6.law MemoryStores_12_7_run ha w hT
theorem MemoryStores_12_8_run : isBool true (runW h6.K 3 [ai (Int.ofNat 12), ai (Int.ofNat 8)] s0) = true := by kernel_rfl
theorem MemoryStores_12_8_law {args : Array Value} (ha : VAs (fun _ => none) [ai (Int.ofNat 12), ai (Int.ofNat 8)] args.toList) (w : World) (hT : Tab w) :
    Calls Tryz.prog 3 args w fun e w' => Below w.heap.size w w' ∧ e = .returned (.bool true) := h6.law MemoryStores_12_8_run ha w hT
theorem MemoryStores_12_9_run : isBool true (runW h6.K 3 [ai (Int.ofNat 12), ai (Int.ofNat 9)] s0) = true := by kernel_rfl
theorem MemoryStores_12_9_law {args : Array Value} (ha : VAs (fun _ => none) [ai (Int.ofNat 12), ai (Int.ofNat 9)] args.toList) (w : World) (hT : Tab w) :
    Calls Tryz.prog 3 args w fun e w' => Below w.heap.size w w' ∧ e = .returned (.bool true) := h6.law MemoryStores_12_9_run ha w hT
theorem MemoryStores_12_10_run : isBool true (runW h6.K 3 [ai (Int.ofNat 12), ai (Int.ofNat 10)] s0) = true := by kernel_rfl
theorem MemoryStores_12_10_law {args : Array Value} (ha : VAs (fun _ => none) [ai (Int.ofNat 12), ai (Int.ofNat 10)] args.toList) (w : World) (hT : Tab w) :
    Calls Tryz.prog 3 args w fun e w' => Below w.heap.size w w' ∧ e = .returned (.bool true) := h6.law MemoryStores_12_10_run ha w hT
theorem MemoryStores_12_11_run : isBool true (runW h6.K 3 [ai (Int.ofNat 12), ai (Int.ofNat 11)] s0) = true := by kernel_rfl
theorem MemoryStores_12_11_law {args : Array Value} (ha : VAs (fun _ => none) [ai (Int.ofNat 12), ai (Int.ofNat 11)] args.toList) (w : World) (hT : Tab w) :
    Calls Tryz.prog 3 args w fun e w' => Below w.heap.size w w' ∧ e = .returned (.bool true) := h6.law MemoryStores_12_11_run ha w hT
theorem MemoryStores_12_12_run : isBool true (runW h6.K 3 [ai (Int.ofNat 12), ai (Int.ofNat 12)] s0) = true := by kernel_rfl
theorem MemoryStores_12_12_law {args : Array Value} (ha : VAs (fun _ => none) [ai (Int.ofNat 12), ai (Int.ofNat 12)] args.toList) (w : World) (hT : Tab w) :
    Calls Tryz.prog 3 args w fun e w' => Below w.heap.size w w' ∧ e = .returned (.bool true) := h6.law MemoryStores_12_12_run ha w hT
theorem MemoryStores_12_neg (j : Nat) : isBool true (runW hkT 3 [ai (Int.ofNat 12), ai (Int.negSucc j)] s0) = true := by kernel_rfl
theorem MemoryStores_12_big (j : Nat) : isBool true (runW hkT 3 [ai (Int.ofNat 12), ai (Int.ofNat (j + 13))] s0) = true := by kernel_rfl
theorem MemoryStores_12_all (w : World) (hT : Tab w) (m : Int) : Calls Tryz.prog 3 #[.int .i64 (Int.ofNat 12), .int .i64 m] w fun e w' => Below w.heap.size w w' ∧ e = .returned (.bool true) := by
  rcases m with m | k
  · by_cases h : 13 ≤ m
    · obtain ⟨k, rfl⟩ : ∃ k, m = k + 13 := ⟨m - 13, by omega⟩
      exact lawT (MemoryStores_12_big k) (by exact ⟨rfl, rfl, trivial⟩) w hT
    · rcases (by omega : m = 0 ∨ m = 1 ∨ m = 2 ∨ m = 3 ∨ m = 4 ∨ m = 5 ∨ m = 6 ∨ m = 7 ∨ m = 8 ∨ m = 9 ∨ m = 10 ∨ m = 11 ∨ m = 12) with rfl | rfl | rfl | rfl | rfl | rfl | rfl | rfl | rfl | rfl | rfl | rfl | rfl
      · exact MemoryStores_12_0_law (by exact ⟨rfl, rfl, trivial⟩) w hT
      · exact MemoryStores_12_1_law (by exact ⟨rfl, rfl, trivial⟩) w hT
      · exact MemoryStores_12_2_law (by exact ⟨rfl, rfl, trivial⟩) w hT
      · exact MemoryStores_12_3_law (by exact ⟨rfl, rfl, trivial⟩) w hT
      · exact MemoryStores_12_4_law (by exact ⟨rfl, rfl, trivial⟩) w hT
      · exact MemoryStores_12_5_law (by exact ⟨rfl, rfl, trivial⟩) w hT
      · exact MemoryStores_12_6_law (by exact ⟨rfl, rfl, trivial⟩) w hT
      · exact MemoryStores_12_7_law (by exact ⟨rfl, rfl, trivial⟩) w hT
      · exact MemoryStores_12_8_law (by exact ⟨rfl, rfl, trivial⟩) w hT
      · exact MemoryStores_12_9_law (by exact ⟨rfl, rfl, trivial⟩) w hT
      · exact MemoryStores_12_10_law (by exact ⟨rfl, rfl, trivial⟩) w hT
      · exact MemoryStores_12_11_law (by exact ⟨rfl, rfl, trivial⟩) w hT
      · exact MemoryStores_12_12_law (by exact ⟨rfl, rfl, trivial⟩) w hT
  · exact lawT (MemoryStores_12_neg k) (by exact ⟨rfl, rfl, trivial⟩) w hT
end Go.Proofs.YtjbnkokcbhfdgabGreatDoor
