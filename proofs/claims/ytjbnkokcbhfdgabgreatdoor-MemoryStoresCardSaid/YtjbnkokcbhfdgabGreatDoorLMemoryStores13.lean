/- Tables of calls, and a run that uses them. -/
import Derived.Test.YtjbnkokcbhfdgabGreatDoorLn22
namespace Go.Proofs.YtjbnkokcbhfdgabGreatDoor
open Go Go.RowKit Ev
set_option maxRecDepth 100000
set_option linter.unusedVariables false
private noncomputable abbrev i (n : Nat) : CV := .int .i64 (.ofNat n)
private noncomputable abbrev o (b a n : Nat) : CV := .slice b a n (.opn 0)
private noncomputable abbrev f (b a n : Nat) : CV := .slice b a n (.fix n)
private noncomputable abbrev e (k t : Nat) : Nat × BK := (k, ⟨[.snil], t, 0, none⟩)
private noncomputable abbrev l0 : Bls := [(0, ⟨[.snil, i 0, i 0], 89, 0, none⟩),
(3, ⟨[o 37 0 15, i 3, i 0, i 0, i 0], 41, 0, none⟩),
(4, ⟨[i 0, o 9 0 2, f 3 0 1], 38, 0, none⟩),
(5, ⟨[f 7 0 1, f 0 0 1, .snil, .snil, f 4 0 1, i 0], 34, 0, none⟩),
(6, ⟨[i 0, i 0, i 0, i 0], 26, 0, none⟩),
(7, ⟨[f 6 0 2], 27, 0, none⟩),
(9, ⟨[i 0, i 0, i 1, i 0], 26, 2, none⟩),
(37, ⟨[i 1, i 0, i 0, i 0, i 7, .snil, i 5, i 1, i 0, i 0, i 0, .snil, i 8, i 0, i 1, i 0, i 0, .snil, i 8, i 0, i 1, i 0, i 1, .snil, i 8, i 0, i 1, i 0, i 0, .snil, i 8, i 0, i 1, i 0, i 1, .snil, i 8, i 0, i 1, i 0, i 0, .snil, i 8, i 0, i 1, i 0, i 1, .snil, i 8, i 0, i 1, i 0, i 0, .snil, i 8, i 0, i 1, i 0, i 1, .snil, i 8, i 0, i 1, i 0, i 0, .snil, i 8, i 0, i 1, i 0, i 1, .snil, i 8, i 0, i 1, i 0, i 0, .snil, i 8, i 0, i 1, i 0, i 1, .snil, i 8, i 0, i 1, i 0, i 0, .snil], 44, 6, none⟩)]
private noncomputable abbrev l1 : Bls := [(38, ⟨[o 46 0 1, o 50 0 1, o 103 0 1, o 94 0 1, o 96 0 1, i 5], 150, 0, none⟩),
(44, ⟨[i 0, i 1], 3, 1, none⟩),
(46, ⟨[o 44 0 2], 42, 1, none⟩),
(50, ⟨[i 2], 3, 1, none⟩),
(94, ⟨[i 1], 3, 1, none⟩),
(96, ⟨[i 0], 3, 1, none⟩),
(101, ⟨[i 3, i 4], 3, 1, none⟩),
(103, ⟨[o 101 0 2], 42, 1, none⟩),
(174, ⟨[o 184 0 5], 157, 0, none⟩),
(184, ⟨[i 0, i 1, i 2, i 3, i 4], 3, 1, none⟩),
(185, ⟨[.snil, .snil, .snil, .snil, .snil], 162, 0, none⟩),
(186, ⟨[o 237 0 1], 99, 0, none⟩),
(187, ⟨[], 0, 0, some (.map [] 0)⟩),
(188, ⟨[], 0, 0, some (.map [] 1)⟩),
(189, ⟨[.snil, o 548 0 0, .map 188, i 1], 161, 0, none⟩),
(190, ⟨[.ptr 5 0, .ptr 38 0, .ptr 174 0, o 229 0 5, o 232 0 5, o 235 0 5, f 185 0 5, .ptr 186 0, .map 187, .ptr 189 0], 105, 0, none⟩),
e 191 99,
e 194 99,
e 197 99,
(200, ⟨[o 546 0 1], 99, 0, none⟩),
e 206 99,
e 209 99,
e 212 99,
e 215 99,
e 218 99,
e 221 99,
e 224 99,
e 227 99,
(229, ⟨[.ptr 191 0, .ptr 200 0, .ptr 209 0, .ptr 218 0, .ptr 227 0], 96, 1, none⟩),
e 230 99,
(232, ⟨[.ptr 194 0, .ptr 666 0, .ptr 212 0, .ptr 221 0, .ptr 230 0], 96, 1, none⟩),
e 233 99,
(235, ⟨[.ptr 197 0, .ptr 206 0, .ptr 215 0, .ptr 224 0, .ptr 233 0], 96, 1, none⟩),
(237, ⟨[.int .u64 (.ofNat 1)], 229, 1, none⟩),
(546, ⟨[.int .u64 (.ofNat 1)], 229, 1, none⟩),
(548, ⟨[i 0], 3, 1, none⟩),
(665, ⟨[.int .u64 (.ofNat 1)], 229, 1, none⟩),
(666, ⟨[o 665 0 1], 99, 0, none⟩)]
private noncomputable abbrev l2 : Bls := [(669, ⟨[.ptr 5 0, .ptr 190 0, o 1147 0 16, o 769 0 1], 178, 0, none⟩),
(672, ⟨[i 0, f 674 0 16], 258, 0, none⟩),
(674, ⟨[.snil, o 680 0 1, o 686 0 1, o 692 0 1, o 698 0 1, o 704 0 1, o 710 0 1, o 716 0 1, o 722 0 1, o 728 0 1, o 734 0 1, o 740 0 1, o 746 0 1, o 752 0 1, o 758 0 1, o 764 0 1], 42, 0, none⟩),
(680, ⟨[i 0], 3, 1, none⟩),
(686, ⟨[i 1], 3, 1, none⟩),
(692, ⟨[i 2], 3, 1, none⟩),
(698, ⟨[i 3], 3, 1, none⟩),
(704, ⟨[i 4], 3, 1, none⟩),
(710, ⟨[i 5], 3, 1, none⟩),
(716, ⟨[i 6], 3, 1, none⟩),
(722, ⟨[i 7], 3, 1, none⟩),
(728, ⟨[i 8], 3, 1, none⟩),
(734, ⟨[i 9], 3, 1, none⟩),
(740, ⟨[i 10], 3, 1, none⟩),
(746, ⟨[i 11], 3, 1, none⟩),
(752, ⟨[i 12], 3, 1, none⟩),
(758, ⟨[i 13], 3, 1, none⟩),
(764, ⟨[i 14], 3, 1, none⟩),
(769, ⟨[.ptr 672 0], 179, 1, none⟩),
(803, ⟨[], 0, 0, some (.map [] 0)⟩),
(816, ⟨[], 0, 0, some (.map [(0, .agg [i 1, i 0], .c (.bool true)), (1, .agg [i 1, i 1], .c (.bool true))] 2)⟩),
(838, ⟨[], 0, 0, some (.map [(0, .agg [i 1, i 0], .c (.bool true))] 1)⟩),
(861, ⟨[], 0, 0, some (.map [(0, .agg [i 1, i 1], .c (.bool true))] 1)⟩),
(884, ⟨[], 0, 0, some (.map [(0, .agg [i 1, i 0], .c (.bool true))] 1)⟩),
(907, ⟨[], 0, 0, some (.map [(0, .agg [i 1, i 1], .c (.bool true))] 1)⟩),
(930, ⟨[], 0, 0, some (.map [(0, .agg [i 1, i 0], .c (.bool true))] 1)⟩),
(953, ⟨[], 0, 0, some (.map [(0, .agg [i 1, i 1], .c (.bool true))] 1)⟩),
(976, ⟨[], 0, 0, some (.map [(0, .agg [i 1, i 0], .c (.bool true))] 1)⟩),
(999, ⟨[], 0, 0, some (.map [(0, .agg [i 1, i 1], .c (.bool true))] 1)⟩),
(1022, ⟨[], 0, 0, some (.map [(0, .agg [i 1, i 0], .c (.bool true))] 1)⟩),
(1045, ⟨[], 0, 0, some (.map [(0, .agg [i 1, i 1], .c (.bool true))] 1)⟩),
(1068, ⟨[], 0, 0, some (.map [(0, .agg [i 1, i 0], .c (.bool true))] 1)⟩),
(1091, ⟨[], 0, 0, some (.map [(0, .agg [i 1, i 1], .c (.bool true))] 1)⟩),
(1114, ⟨[], 0, 0, some (.map [(0, .agg [i 1, i 0], .c (.bool true))] 1)⟩),
(1137, ⟨[], 0, 0, some (.map [] 0)⟩),
(1147, ⟨[.map 803, .map 816, .map 838, .map 861, .map 884, .map 907, .map 930, .map 953, .map 976, .map 999, .map 1022, .map 1045, .map 1068, .map 1091, .map 1114, .map 1137], 181, 1, none⟩)]
private noncomputable abbrev l3 : Bls := [(0, ⟨[.snil, i 0, i 0], 89, 0, none⟩),
(3, ⟨[o 37 0 15, i 3, i 0, i 0, i 0], 41, 0, none⟩),
(4, ⟨[i 0, o 9 0 2, f 3 0 1], 38, 0, none⟩),
(5, ⟨[f 7 0 1, f 0 0 1, .snil, .snil, f 4 0 1, i 0], 34, 0, none⟩),
(6, ⟨[i 0, i 0, i 0, i 0], 26, 0, none⟩),
(7, ⟨[f 6 0 2], 27, 0, none⟩),
(9, ⟨[i 0, i 0, i 1, i 0], 26, 2, none⟩),
(37, ⟨[i 1, i 0, i 0, i 0, i 7, .snil, i 5, i 1, i 0, i 0, i 0, .snil, i 8, i 0, i 1, i 0, i 0, .snil, i 8, i 0, i 1, i 0, i 1, .snil, i 8, i 0, i 1, i 0, i 0, .snil, i 8, i 0, i 1, i 0, i 1, .snil, i 8, i 0, i 1, i 0, i 0, .snil, i 8, i 0, i 1, i 0, i 1, .snil, i 8, i 0, i 1, i 0, i 0, .snil, i 8, i 0, i 1, i 0, i 1, .snil, i 8, i 0, i 1, i 0, i 0, .snil, i 8, i 0, i 1, i 0, i 1, .snil, i 8, i 0, i 1, i 0, i 0, .snil, i 8, i 0, i 1, i 0, i 1, .snil, i 8, i 0, i 1, i 0, i 0, .snil], 44, 6, none⟩),
(38, ⟨[o 46 0 1, o 50 0 1, o 103 0 1, o 94 0 1, o 96 0 1, i 5], 150, 0, none⟩),
(44, ⟨[i 0, i 1], 3, 1, none⟩),
(46, ⟨[o 44 0 2], 42, 1, none⟩),
(50, ⟨[i 2], 3, 1, none⟩),
(94, ⟨[i 1], 3, 1, none⟩),
(96, ⟨[i 0], 3, 1, none⟩),
(101, ⟨[i 3, i 4], 3, 1, none⟩),
(103, ⟨[o 101 0 2], 42, 1, none⟩),
(174, ⟨[o 184 0 5], 157, 0, none⟩),
(184, ⟨[i 0, i 1, i 2, i 3, i 4], 3, 1, none⟩),
(185, ⟨[.snil, .snil, .snil, .snil, .snil], 162, 0, none⟩),
(186, ⟨[o 237 0 1], 99, 0, none⟩),
(187, ⟨[], 0, 0, some (.map [] 0)⟩),
(188, ⟨[], 0, 0, some (.map [] 1)⟩),
(189, ⟨[.snil, o 548 0 0, .map 188, i 1], 161, 0, none⟩),
(190, ⟨[.ptr 5 0, .ptr 38 0, .ptr 174 0, o 229 0 5, o 232 0 5, o 235 0 5, f 185 0 5, .ptr 186 0, .map 187, .ptr 189 0], 105, 0, none⟩),
e 191 99,
e 194 99,
e 197 99,
(200, ⟨[o 546 0 1], 99, 0, none⟩),
e 206 99,
e 209 99,
e 212 99,
e 215 99,
e 218 99,
e 221 99,
e 224 99,
e 227 99,
(229, ⟨[.ptr 191 0, .ptr 200 0, .ptr 209 0, .ptr 218 0, .ptr 227 0], 96, 1, none⟩),
e 230 99,
(232, ⟨[.ptr 194 0, .ptr 666 0, .ptr 212 0, .ptr 221 0, .ptr 230 0], 96, 1, none⟩),
e 233 99,
(235, ⟨[.ptr 197 0, .ptr 206 0, .ptr 215 0, .ptr 224 0, .ptr 233 0], 96, 1, none⟩),
(237, ⟨[.int .u64 (.ofNat 1)], 229, 1, none⟩),
(546, ⟨[.int .u64 (.ofNat 1)], 229, 1, none⟩),
(548, ⟨[i 0], 3, 1, none⟩),
(665, ⟨[.int .u64 (.ofNat 1)], 229, 1, none⟩),
(666, ⟨[o 665 0 1], 99, 0, none⟩)]
private noncomputable def m0 : MM := ⟨[56], l0, 38, [⟨56, 0, [.v (.c (.ptr 5 0))], .v (.c (.nili))⟩]⟩
private theorem m0_k : H0.tbl m0 = true := by kernel_rfl
private noncomputable def h1 : HK := H0.memo m0 m0_k
private noncomputable def m1 : MM := ⟨[91], [(3, ⟨[o 37 0 15, i 3, i 0, i 0, i 0], 41, 0, none⟩),
(4, ⟨[i 0, o 9 0 2, f 3 0 1], 38, 0, none⟩),
(5, ⟨[f 7 0 1, f 0 0 1, .snil, .snil, f 4 0 1, i 0], 34, 0, none⟩)], 85, [⟨91, 0, [.v (.c (.ptr 5 0)), .v (.c (i 0))], .tup [.agg [i 0, i 0, i 0], .c (.bool true)]⟩,
⟨91, 1, [.v (.c (.ptr 5 0)), .v (.c (i 1))], .tup [.agg [i 0, i 0, i 1], .c (.bool true)]⟩,
⟨91, 2, [.v (.c (.ptr 5 0)), .v (.c (i 2))], .tup [.agg [i 0, i 0, i 2], .c (.bool true)]⟩,
⟨91, 3, [.v (.c (.ptr 5 0)), .v (.c (i 3))], .tup [.agg [i 0, i 0, i 3], .c (.bool true)]⟩,
⟨91, 4, [.v (.c (.ptr 5 0)), .v (.c (i 4))], .tup [.agg [i 0, i 0, i 4], .c (.bool true)]⟩,
⟨91, 5, [.v (.c (.ptr 5 0)), .v (.c (i 5))], .tup [.agg [i 0, i 0, i 5], .c (.bool true)]⟩,
⟨91, 6, [.v (.c (.ptr 5 0)), .v (.c (i 6))], .tup [.agg [i 0, i 0, i 6], .c (.bool true)]⟩,
⟨91, 7, [.v (.c (.ptr 5 0)), .v (.c (i 7))], .tup [.agg [i 0, i 0, i 7], .c (.bool true)]⟩,
⟨91, 8, [.v (.c (.ptr 5 0)), .v (.c (i 8))], .tup [.agg [i 0, i 0, i 8], .c (.bool true)]⟩,
⟨91, 9, [.v (.c (.ptr 5 0)), .v (.c (i 9))], .tup [.agg [i 0, i 0, i 9], .c (.bool true)]⟩,
⟨91, 10, [.v (.c (.ptr 5 0)), .v (.c (i 10))], .tup [.agg [i 0, i 0, i 10], .c (.bool true)]⟩,
⟨91, 11, [.v (.c (.ptr 5 0)), .v (.c (i 11))], .tup [.agg [i 0, i 0, i 11], .c (.bool true)]⟩,
⟨91, 12, [.v (.c (.ptr 5 0)), .v (.c (i 12))], .tup [.agg [i 0, i 0, i 12], .c (.bool true)]⟩,
⟨91, 13, [.v (.c (.ptr 5 0)), .v (.c (i 13))], .tup [.agg [i 0, i 0, i 13], .c (.bool true)]⟩,
⟨91, 14, [.v (.c (.ptr 5 0)), .v (.c (i 14))], .tup [.agg [i 0, i 0, i 14], .c (.bool true)]⟩,
⟨91, 15, [.v (.c (.ptr 5 0)), .v (.c (i 15))], .tup [.agg [i 0, i 0, i 15], .c (.bool true)]⟩]⟩
private theorem m1_k : h1.tbl m1 = true := by kernel_rfl
private noncomputable def h2 : HK := h1.memo m1 m1_k
private noncomputable def s1 : RE := ⟨35, [.v (.c (.ptr 5 0))], 38, .v (.c (.ptr 38 0)), [(38, ⟨[o 46 0 1, o 50 0 1, o 103 0 1, o 94 0 1, o 96 0 1, i 5], 150, 0, none⟩),
(44, ⟨[i 0, i 1], 3, 1, none⟩),
(46, ⟨[o 44 0 2], 42, 1, none⟩),
(50, ⟨[i 2], 3, 1, none⟩),
(94, ⟨[i 1], 3, 1, none⟩),
(96, ⟨[i 0], 3, 1, none⟩),
(101, ⟨[i 3, i 4], 3, 1, none⟩),
(103, ⟨[o 101 0 2], 42, 1, none⟩)], 174⟩
private theorem s1_k : h2.srp l0 s1 = true := by kernel_rfl
private noncomputable def h3 : HK := h2.srep _ s1 s1_k
private noncomputable def s2 : RE := ⟨9, [.v (.c (.ptr 5 0)), .v (.c (.snil))], 38, .v (.c (.ptr 190 0)), l1, 667⟩
private theorem s2_k : h3.rep l0 s2 = true := by kernel_rfl
private noncomputable def h4 : HK := h3.repl _ s2 s2_k
private noncomputable def s3 : RE := ⟨43, [.v (.c (.ptr 5 0)), .v (.c (.ptr 190 0))], 669, .v (.c (.ptr 669 0)), l2, 1148⟩
private theorem s3_k : h4.srp l3 s3 = true := by kernel_rfl
private noncomputable def h5 : HK := h4.srep _ s3 s3_k
private noncomputable def s4 : RE := ⟨11, [.v (.c (.ptr 5 0)), .v (.c (.ptr 190 0)), .v (.c (i 0))], 1649, .v (.c (o 1907 0 2)), [(1907, ⟨[i 1, i 0, i 1, i 1, i 0, i 0, i 0, i 0, i 0, i 0, i 0, i 0, i 0, i 0, i 0, i 0, i 0, i 0, i 0, i 0, i 0, i 0, i 0, i 0, i 0, i 0, i 0, i 0, i 0, i 0], 48, 2, none⟩)], 2136⟩
private theorem s4_k : h5.srp l3 s4 = true := by kernel_rfl
private noncomputable def h6 : HK := h5.srep _ s4 s4_k
theorem MemoryStores_13_0_run : isBool true (runW h6.K 3 [ai (Int.ofNat 13), ai (Int.ofNat 0)] s0) = true := by kernel_rfl
theorem MemoryStores_13_0_law {args : Array Value} (ha : VAs (fun _ => none) [ai (Int.ofNat 13), ai (Int.ofNat 0)] args.toList) (w : World) (hT : Tab w) :
    Calls Tryz.prog 3 args w fun e w' => Below w.heap.size w w' ∧ e = .returned (.bool true) := h6.law MemoryStores_13_0_run ha w hT
theorem MemoryStores_13_1_run : isBool true (runW h6.K 3 [ai (Int.ofNat 13), ai (Int.ofNat 1)] s0) = true := by kernel_rfl
theorem MemoryStores_13_1_law {args : Array Value} (ha : VAs (fun _ => none) [ai (Int.ofNat 13), ai (Int.ofNat 1)] args.toList) (w : World) (hT : Tab w) :
    Calls Tryz.prog 3 args w fun e w' => Below w.heap.size w w' ∧ e = .returned (.bool true) := h6.law MemoryStores_13_1_run ha w hT
theorem MemoryStores_13_2_run : isBool true (runW h6.K 3 [ai (Int.ofNat 13), ai (Int.ofNat 2)] s0) = true := by kernel_rfl
theorem MemoryStores_13_2_law {args : Array Value} (ha : VAs (fun _ => none) [ai (Int.ofNat 13), ai (Int.ofNat 2)] args.toList) (w : World) (hT : Tab w) :
    Calls Tryz.prog 3 args w fun e w' => Below w.heap.size w w' ∧ e = .returned (.bool true) := h6.law MemoryStores_13_2_run ha w hT
theorem MemoryStores_13_3_run : isBool true (runW h6.K 3 [ai (Int.ofNat 13), ai (Int.ofNat 3)] s0) = true := by kernel_rfl
theorem MemoryStores_13_3_law {args : Array Value} (ha : VAs (fun _ => none) [ai (Int.ofNat 13), ai (Int.ofNat 3)] args.toList) (w : World) (hT : Tab w) :
    Calls Tryz.prog 3 args w fun e w' => Below w.heap.size w w' ∧ e = .returned (.bool true) := h6.law MemoryStores_13_3_run ha w hT
theorem MemoryStores_13_4_run : isBool true (runW h6.K 3 [ai (Int.ofNat 13), ai (Int.ofNat 4)] s0) = true := by kernel_rfl
theorem MemoryStores_13_4_law {args : Array Value} (ha : VAs (fun _ => none) [ai (Int.ofNat 13), ai (Int.ofNat 4)] args.toList) (w : World) (hT : Tab w) :
    Calls Tryz.prog 3 args w fun e w' => Below w.heap.size w w' ∧ e = .returned (.bool true) := h6.law MemoryStores_13_4_run ha w hT
theorem MemoryStores_13_5_run : isBool true (runW h6.K 3 [ai (Int.ofNat 13), ai (Int.ofNat 5)] s0) = true := by kernel_rfl
theorem MemoryStores_13_5_law {args : Array Value} (ha : VAs (fun _ => none) [ai (Int.ofNat 13), ai (Int.ofNat 5)] args.toList) (w : World) (hT : Tab w) :
    Calls Tryz.prog 3 args w fun e w' => Below w.heap.size w w' ∧ e = .returned (.bool true) := h6.law MemoryStores_13_5_run ha w hT
theorem MemoryStores_13_6_run : isBool true (runW h6.K 3 [ai (Int.ofNat 13), ai (Int.ofNat 6)] s0) = true := by kernel_rfl
theorem MemoryStores_13_6_law {args : Array Value} (ha : VAs (fun _ => none) [ai (Int.ofNat 13), ai (Int.ofNat 6)] args.toList) (w : World) (hT : Tab w) :
    Calls Tryz.prog 3 args w fun e w' => Below w.heap.size w w' ∧ e = .returned (.bool true) := h6.law MemoryStores_13_6_run ha w hT
theorem MemoryStores_13_7_run : isBool true (runW h6.K 3 [ai (Int.ofNat 13), ai (Int.ofNat 7)] s0) = true := by kernel_rfl
theorem MemoryStores_13_7_law {args : Array Value} (ha : VAs (fun _ => none) [ai (Int.ofNat 13), ai (Int.ofNat 7)] args.toList) (w : World) (hT : Tab w) :
    Calls Tryz.prog 3 args w fun e w' => Below w.heap.size w w' ∧ e = .returned (.bool true) := h6.law MemoryStores_13_7_run ha w hT
theorem MemoryStores_13_8_run : isBool true (runW h6.K 3 [ai (Int.ofNat 13), ai (Int.ofNat 8)] s0) = true := by kernel_rfl
theorem MemoryStores_13_8_law {args : Array Value} (ha : VAs (fun _ => none) [ai (Int.ofNat 13), ai (Int.ofNat 8)] args.toList) (w : World) (hT : Tab w) :
    Calls Tryz.prog 3 args w fun e w' => Below w.heap.size w w' ∧ e = .returned (.bool true) := h6.law MemoryStores_13_8_run ha w hT
theorem MemoryStores_13_9_run : isBool true (runW h6.K 3 [ai (Int.ofNat 13), ai (Int.ofNat 9)] s0) = true := by kernel_rfl
theorem MemoryStores_13_9_law {args : Array Value} (ha : VAs (fun _ => none) [ai (Int.ofNat 13), ai (Int.ofNat 9)] args.toList) (w : World) (hT : Tab w) :
    Calls Tryz.prog 3 args w fun e w' => Below w.heap.size w w' ∧ e = .returned (.bool true) := h6.law MemoryStores_13_9_run ha w hT
theorem MemoryStores_13_10_run : isBool true (runW h6.K 3 [ai (Int.ofNat 13), ai (Int.ofNat 10)] s0) = true := by kernel_rfl
theorem MemoryStores_13_10_law {args : Array Value} (ha : VAs (fun _ => none) [ai (Int.ofNat 13), ai (Int.ofNat 10)] args.toList) (w : World) (hT : Tab w) :
    Calls Tryz.prog 3 args w fun e w' => Below w.heap.size w w' ∧ e = .returned (.bool true) := h6.law MemoryStores_13_10_run ha w hT
theorem MemoryStores_13_11_run : isBool true (runW h6.K 3 [ai (Int.ofNat 13), ai (Int.ofNat 11)] s0) = true := by kernel_rfl
theorem MemoryStores_13_11_law {args : Array Value} (ha : VAs (fun _ => none) [ai (Int.ofNat 13), ai (Int.ofNat 11)] args.toList) (w : World) (hT : Tab w) :
    Calls Tryz.prog 3 args w fun e w' => Below w.heap.size w w' ∧ e = .returned (.bool true) := h6.law MemoryStores_13_11_run ha w hT
theorem MemoryStores_13_12_run : isBool true (runW h6.K 3 [ai (Int.ofNat 13), ai (Int.ofNat 12)] s0) = true := by kernel_rfl
theorem MemoryStores_13_12_law {args : Array Value} (ha : VAs (fun _ => none) [ai (Int.ofNat 13), ai (Int.ofNat 12)] args.toList) (w : World) (hT : Tab w) :
    Calls Tryz.prog 3 args w fun e w' => Below w.heap.size w w' ∧ e = .returned (.bool true) := h6.law MemoryStores_13_12_run ha w hT
theorem MemoryStores_13_13_run : isBool true (runW h6.K 3 [ai (Int.ofNat 13), ai (Int.ofNat 13)] s0) = true := by kernel_rfl
theorem MemoryStores_13_13_law {args : Array Value} (ha : VAs (fun _ => none) [ai (Int.ofNat 13), ai (Int.ofNat 13)] args.toList) (w : World) (hT : Tab w) :
    Calls Tryz.prog 3 args w fun e w' => Below w.heap.size w w' ∧ e = .returned (.bool true) := h6.law MemoryStores_13_13_run ha w hT
theorem MemoryStores_13_neg (j : Nat) : isBool true (runW hkT 3 [ai (Int.ofNat 13), ai (Int.negSucc j)] s0) = true := by kernel_rfl
theorem MemoryStores_13_big (j : Nat) : isBool true (runW hkT 3 [ai (Int.ofNat 13), ai (Int.ofNat (j + 14))] s0) = true := by kernel_rfl
theorem MemoryStores_13_all (w : World) (hT : Tab w) (m : Int) : Calls Tryz.prog 3 #[.int .i64 (Int.ofNat 13), .int .i64 m] w fun e w' => Below w.heap.size w w' ∧ e = .returned (.bool true) := by
  rcases m with m | k
  · by_cases h : 14 ≤ m
    · obtain ⟨k, rfl⟩ : ∃ k, m = k + 14 := ⟨m - 14, by omega⟩
      exact lawT (MemoryStores_13_big k) (by exact ⟨rfl, rfl, trivial⟩) w hT
    · rcases (by omega : m = 0 ∨ m = 1 ∨ m = 2 ∨ m = 3 ∨ m = 4 ∨ m = 5 ∨ m = 6 ∨ m = 7 ∨ m = 8 ∨ m = 9 ∨ m = 10 ∨ m = 11 ∨ m = 12 ∨ m = 13) with rfl | rfl | rfl | rfl | rfl | rfl | rfl | rfl | rfl | rfl | rfl | rfl | rfl | rfl
      · exact MemoryStores_13_0_law (by exact ⟨rfl, rfl, trivial⟩) w hT
      · exact MemoryStores_13_1_law (by exact ⟨rfl, rfl, trivial⟩) w hT
      · exact MemoryStores_13_2_law (by exact ⟨rfl, rfl, trivial⟩) w hT
      · exact MemoryStores_13_3_law (by exact ⟨rfl, rfl, trivial⟩) w hT
      · exact MemoryStores_13_4_law (by exact ⟨rfl, rfl, trivial⟩) w hT
      · exact MemoryStores_13_5_law (by exact ⟨rfl, rfl, trivial⟩) w hT
      · exact MemoryStores_13_6_law (by exact ⟨rfl, rfl, trivial⟩) w hT
      · exact MemoryStores_13_7_law (by exact ⟨rfl, rfl, trivial⟩) w hT
      · exact MemoryStores_13_8_law (by exact ⟨rfl, rfl, trivial⟩) w hT
      · exact MemoryStores_13_9_law (by exact ⟨rfl, rfl, trivial⟩) w hT
      · exact MemoryStores_13_10_law (by exact ⟨rfl, rfl, trivial⟩) w hT
      · exact MemoryStores_13_11_law (by exact ⟨rfl, rfl, trivial⟩) w hT
      · exact MemoryStores_13_12_law (by exact ⟨rfl, rfl, trivial⟩) w hT
      · exact MemoryStores_13_13_law (by exact ⟨rfl, rfl, trivial⟩) w hT
  · exact lawT (MemoryStores_13_neg k) (by exact ⟨rfl, rfl, trivial⟩) w hT
end Go.Proofs.YtjbnkokcbhfdgabGreatDoor
