/- Tables of calls, and a run that uses them. -/
import Derived.Test.YtjjfahgdmaikpaaGreatDoorLn19
namespace Go.Proofs.YtjjfahgdmaikpaaGreatDoor
open Go Go.RowKit Ev
set_option maxRecDepth 100000
set_option linter.unusedVariables false
noncomputable def CallsChain_1t_m0 : MM := ⟨[100], [(0, ⟨[.snil, .int .i64 (.ofNat 0), .int .i64 (.ofNat 0)], 63, 0, none⟩),
  (1, ⟨[.int .i64 (.ofNat 0), .int .i64 (.ofNat 0)], 36, 0, none⟩),
  (3, ⟨[.slice 7 0 2 (.opn 0), .int .i64 (.ofNat 3), .int .i64 (.ofNat 0), .int .i64 (.ofNat 0), .int .i64 (.ofNat 0)], 51, 0, none⟩),
  (5, ⟨[.snil, .slice 0 0 1 (.fix 1), .snil, .snil, .slice 12 0 2 (.opn 0), .int .i64 (.ofNat 0)], 44, 0, none⟩),
  (7, ⟨[.int .i64 (.ofNat 1), .int .i64 (.ofNat 0), .int .i64 (.ofNat 0), .int .i64 (.ofNat 0), .int .i64 (.ofNat 7), .snil, .int .i64 (.ofNat 12), .int .i64 (.ofNat 0), .int .i64 (.ofNat 0), .int .i64 (.ofNat 0), .int .i64 (.ofNat 1), .snil], 53, 6, none⟩),
  (8, ⟨[.int .i64 (.ofNat 0), .int .i64 (.ofNat 0)], 36, 0, none⟩),
  (10, ⟨[.slice 14 0 2 (.opn 0), .int .i64 (.ofNat 3), .int .i64 (.ofNat 0), .int .i64 (.ofNat 0), .int .i64 (.ofNat 0)], 51, 0, none⟩),
  (12, ⟨[.int .i64 (.ofNat 0), .slice 1 0 1 (.fix 1), .slice 3 0 1 (.fix 1), .int .i64 (.ofNat 0), .slice 8 0 1 (.fix 1), .slice 10 0 1 (.fix 1)], 48, 3, none⟩),
  (14, ⟨[.int .i64 (.ofNat 1), .int .i64 (.ofNat 0), .int .i64 (.ofNat 0), .int .i64 (.ofNat 0), .int .i64 (.ofNat 0), .snil, .int .i64 (.ofNat 12), .int .i64 (.ofNat 0), .int .i64 (.ofNat 0), .int .i64 (.ofNat 0), .int .i64 (.ofNat 1), .snil], 53, 6, none⟩)], 15, [⟨100, 0, [.v (.c (.ptr 5 0))], .v (.c (.nili))⟩]⟩
theorem CallsChain_1t_m0_ok : H0.tbl CallsChain_1t_m0 = true := by kernel_rfl
noncomputable def CallsChain_1t_h1 : HK := H0.memo CallsChain_1t_m0 CallsChain_1t_m0_ok
noncomputable def CallsChain_1t_m1 : MM := ⟨[71], [(3, ⟨[.slice 7 0 2 (.opn 0), .int .i64 (.ofNat 3), .int .i64 (.ofNat 0), .int .i64 (.ofNat 0), .int .i64 (.ofNat 0)], 51, 0, none⟩),
  (5, ⟨[.snil, .slice 0 0 1 (.fix 1), .snil, .snil, .slice 12 0 2 (.opn 0), .int .i64 (.ofNat 0)], 44, 0, none⟩),
  (10, ⟨[.slice 14 0 2 (.opn 0), .int .i64 (.ofNat 3), .int .i64 (.ofNat 0), .int .i64 (.ofNat 0), .int .i64 (.ofNat 0)], 51, 0, none⟩),
  (12, ⟨[.int .i64 (.ofNat 0), .slice 1 0 1 (.fix 1), .slice 3 0 1 (.fix 1), .int .i64 (.ofNat 0), .slice 8 0 1 (.fix 1), .slice 10 0 1 (.fix 1)], 48, 3, none⟩)], 50, [⟨71, 0, [.v (.c (.ptr 5 0)), .v (.c (.int .i64 (.ofNat 0)))], .tup [.agg [.int .i64 (.ofNat 0), .int .i64 (.ofNat 0), .int .i64 (.ofNat 0)], .c (.bool true)]⟩,
  ⟨71, 1, [.v (.c (.ptr 5 0)), .v (.c (.int .i64 (.ofNat 1)))], .tup [.agg [.int .i64 (.ofNat 0), .int .i64 (.ofNat 0), .int .i64 (.ofNat 1)], .c (.bool true)]⟩,
  ⟨71, 2, [.v (.c (.ptr 5 0)), .v (.c (.int .i64 (.ofNat 2)))], .tup [.agg [.int .i64 (.ofNat 0), .int .i64 (.ofNat 0), .int .i64 (.ofNat 2)], .c (.bool true)]⟩,
  ⟨71, 3, [.v (.c (.ptr 5 0)), .v (.c (.int .i64 (.ofNat 3)))], .tup [.agg [.int .i64 (.ofNat 1), .int .i64 (.ofNat 0), .int .i64 (.ofNat 0)], .c (.bool true)]⟩,
  ⟨71, 4, [.v (.c (.ptr 5 0)), .v (.c (.int .i64 (.ofNat 4)))], .tup [.agg [.int .i64 (.ofNat 1), .int .i64 (.ofNat 0), .int .i64 (.ofNat 1)], .c (.bool true)]⟩,
  ⟨71, 5, [.v (.c (.ptr 5 0)), .v (.c (.int .i64 (.ofNat 5)))], .tup [.agg [.int .i64 (.ofNat 1), .int .i64 (.ofNat 0), .int .i64 (.ofNat 2)], .c (.bool true)]⟩]⟩
theorem CallsChain_1t_m1_ok : CallsChain_1t_h1.tbl CallsChain_1t_m1 = true := by kernel_rfl
noncomputable def CallsChain_1t_h2 : HK := CallsChain_1t_h1.memo CallsChain_1t_m1 CallsChain_1t_m1_ok
noncomputable def CallsChain_1t_s1_b : Bls := [(0, ⟨[.snil, .int .i64 (.ofNat 0), .int .i64 (.ofNat 0)], 63, 0, none⟩),
  (1, ⟨[.int .i64 (.ofNat 0), .int .i64 (.ofNat 0)], 36, 0, none⟩),
  (3, ⟨[.slice 7 0 2 (.opn 0), .int .i64 (.ofNat 3), .int .i64 (.ofNat 0), .int .i64 (.ofNat 0), .int .i64 (.ofNat 0)], 51, 0, none⟩),
  (5, ⟨[.snil, .slice 0 0 1 (.fix 1), .snil, .snil, .slice 12 0 2 (.opn 0), .int .i64 (.ofNat 0)], 44, 0, none⟩),
  (7, ⟨[.int .i64 (.ofNat 1), .int .i64 (.ofNat 0), .int .i64 (.ofNat 0), .int .i64 (.ofNat 0), .int .i64 (.ofNat 7), .snil, .int .i64 (.ofNat 12), .int .i64 (.ofNat 0), .int .i64 (.ofNat 0), .int .i64 (.ofNat 0), .int .i64 (.ofNat 1), .snil], 53, 6, none⟩),
  (8, ⟨[.int .i64 (.ofNat 0), .int .i64 (.ofNat 0)], 36, 0, none⟩),
  (10, ⟨[.slice 14 0 2 (.opn 0), .int .i64 (.ofNat 3), .int .i64 (.ofNat 0), .int .i64 (.ofNat 0), .int .i64 (.ofNat 0)], 51, 0, none⟩),
  (12, ⟨[.int .i64 (.ofNat 0), .slice 1 0 1 (.fix 1), .slice 3 0 1 (.fix 1), .int .i64 (.ofNat 0), .slice 8 0 1 (.fix 1), .slice 10 0 1 (.fix 1)], 48, 3, none⟩),
  (14, ⟨[.int .i64 (.ofNat 1), .int .i64 (.ofNat 0), .int .i64 (.ofNat 0), .int .i64 (.ofNat 0), .int .i64 (.ofNat 0), .snil, .int .i64 (.ofNat 12), .int .i64 (.ofNat 0), .int .i64 (.ofNat 0), .int .i64 (.ofNat 0), .int .i64 (.ofNat 1), .snil], 53, 6, none⟩)]
noncomputable def CallsChain_1t_s1 : RE := ⟨56, [.v (.c (.ptr 5 0))], 15, .v (.c (.ptr 15 0)), [(15, ⟨[.slice 31 0 2 (.opn 0), .slice 35 0 2 (.opn 0), .snil, .snil, .snil, .int .i64 (.ofNat 4)], 173, 0, none⟩),
  (19, ⟨[.int .i64 (.ofNat 0)], 3, 1, none⟩),
  (29, ⟨[.int .i64 (.ofNat 2)], 3, 1, none⟩),
  (31, ⟨[.slice 19 0 1 (.opn 0), .slice 29 0 1 (.opn 0)], 25, 1, none⟩),
  (35, ⟨[.int .i64 (.ofNat 1), .int .i64 (.ofNat 3)], 3, 1, none⟩)], 78⟩
theorem CallsChain_1t_s1_ok : CallsChain_1t_h2.srp CallsChain_1t_s1_b CallsChain_1t_s1 = true := by kernel_rfl
noncomputable def CallsChain_1t_h3 : HK := CallsChain_1t_h2.srep CallsChain_1t_s1_b CallsChain_1t_s1 CallsChain_1t_s1_ok
noncomputable def CallsChain_1t_s2_b : Bls := [(0, ⟨[.snil, .int .i64 (.ofNat 0), .int .i64 (.ofNat 0)], 63, 0, none⟩),
  (1, ⟨[.int .i64 (.ofNat 0), .int .i64 (.ofNat 0)], 36, 0, none⟩),
  (3, ⟨[.slice 7 0 2 (.opn 0), .int .i64 (.ofNat 3), .int .i64 (.ofNat 0), .int .i64 (.ofNat 0), .int .i64 (.ofNat 0)], 51, 0, none⟩),
  (5, ⟨[.snil, .slice 0 0 1 (.fix 1), .snil, .snil, .slice 12 0 2 (.opn 0), .int .i64 (.ofNat 0)], 44, 0, none⟩),
  (7, ⟨[.int .i64 (.ofNat 1), .int .i64 (.ofNat 0), .int .i64 (.ofNat 0), .int .i64 (.ofNat 0), .int .i64 (.ofNat 7), .snil, .int .i64 (.ofNat 12), .int .i64 (.ofNat 0), .int .i64 (.ofNat 0), .int .i64 (.ofNat 0), .int .i64 (.ofNat 1), .snil], 53, 6, none⟩),
  (8, ⟨[.int .i64 (.ofNat 0), .int .i64 (.ofNat 0)], 36, 0, none⟩),
  (10, ⟨[.slice 14 0 2 (.opn 0), .int .i64 (.ofNat 3), .int .i64 (.ofNat 0), .int .i64 (.ofNat 0), .int .i64 (.ofNat 0)], 51, 0, none⟩),
  (12, ⟨[.int .i64 (.ofNat 0), .slice 1 0 1 (.fix 1), .slice 3 0 1 (.fix 1), .int .i64 (.ofNat 0), .slice 8 0 1 (.fix 1), .slice 10 0 1 (.fix 1)], 48, 3, none⟩),
  (14, ⟨[.int .i64 (.ofNat 1), .int .i64 (.ofNat 0), .int .i64 (.ofNat 0), .int .i64 (.ofNat 0), .int .i64 (.ofNat 0), .snil, .int .i64 (.ofNat 12), .int .i64 (.ofNat 0), .int .i64 (.ofNat 0), .int .i64 (.ofNat 0), .int .i64 (.ofNat 1), .snil], 53, 6, none⟩)]
noncomputable def CallsChain_1t_s2 : RE := ⟨79, [.v (.c (.ptr 5 0))], 195, .v (.c (.slice 206 0 6 (.opn 0))), [(206, ⟨[.int .i64 (.ofNat 0), .int .i64 (.ofNat 0), .int .i64 (.ofNat 0), .int .i64 (.ofNat 0), .int .i64 (.ofNat 0), .int .i64 (.ofNat 1), .int .i64 (.ofNat 0), .int .i64 (.ofNat 0), .int .i64 (.ofNat 2), .int .i64 (.ofNat 1), .int .i64 (.ofNat 0), .int .i64 (.ofNat 0), .int .i64 (.ofNat 1), .int .i64 (.ofNat 0), .int .i64 (.ofNat 1), .int .i64 (.ofNat 1), .int .i64 (.ofNat 0), .int .i64 (.ofNat 2)], 117, 3, none⟩)], 207⟩
theorem CallsChain_1t_s2_ok : CallsChain_1t_h3.srp CallsChain_1t_s2_b CallsChain_1t_s2 = true := by kernel_rfl
noncomputable def CallsChain_1t_h4 : HK := CallsChain_1t_h3.srep CallsChain_1t_s2_b CallsChain_1t_s2 CallsChain_1t_s2_ok
noncomputable def CallsChain_1t_s3_b : Bls := [(0, ⟨[.snil, .int .i64 (.ofNat 0), .int .i64 (.ofNat 0)], 63, 0, none⟩),
  (1, ⟨[.int .i64 (.ofNat 0), .int .i64 (.ofNat 0)], 36, 0, none⟩),
  (3, ⟨[.slice 7 0 2 (.opn 0), .int .i64 (.ofNat 3), .int .i64 (.ofNat 0), .int .i64 (.ofNat 0), .int .i64 (.ofNat 0)], 51, 0, none⟩),
  (5, ⟨[.snil, .slice 0 0 1 (.fix 1), .snil, .snil, .slice 12 0 2 (.opn 0), .int .i64 (.ofNat 0)], 44, 0, none⟩),
  (7, ⟨[.int .i64 (.ofNat 1), .int .i64 (.ofNat 0), .int .i64 (.ofNat 0), .int .i64 (.ofNat 0), .int .i64 (.ofNat 7), .snil, .int .i64 (.ofNat 12), .int .i64 (.ofNat 0), .int .i64 (.ofNat 0), .int .i64 (.ofNat 0), .int .i64 (.ofNat 1), .snil], 53, 6, none⟩),
  (8, ⟨[.int .i64 (.ofNat 0), .int .i64 (.ofNat 0)], 36, 0, none⟩),
  (10, ⟨[.slice 14 0 2 (.opn 0), .int .i64 (.ofNat 3), .int .i64 (.ofNat 0), .int .i64 (.ofNat 0), .int .i64 (.ofNat 0)], 51, 0, none⟩),
  (12, ⟨[.int .i64 (.ofNat 0), .slice 1 0 1 (.fix 1), .slice 3 0 1 (.fix 1), .int .i64 (.ofNat 0), .slice 8 0 1 (.fix 1), .slice 10 0 1 (.fix 1)], 48, 3, none⟩),
  (14, ⟨[.int .i64 (.ofNat 1), .int .i64 (.ofNat 0), .int .i64 (.ofNat 0), .int .i64 (.ofNat 0), .int .i64 (.ofNat 0), .snil, .int .i64 (.ofNat 12), .int .i64 (.ofNat 0), .int .i64 (.ofNat 0), .int .i64 (.ofNat 0), .int .i64 (.ofNat 1), .snil], 53, 6, none⟩)]
noncomputable def CallsChain_1t_s3 : RE := ⟨15, [.v (.c (.ptr 5 0)), .v (.c (.snil))], 15, .v (.c (.ptr 92 0)), [(15, ⟨[.slice 31 0 2 (.opn 0), .slice 35 0 2 (.opn 0), .snil, .snil, .snil, .int .i64 (.ofNat 4)], 173, 0, none⟩),
  (19, ⟨[.int .i64 (.ofNat 0)], 3, 1, none⟩),
  (29, ⟨[.int .i64 (.ofNat 2)], 3, 1, none⟩),
  (31, ⟨[.slice 19 0 1 (.opn 0), .slice 29 0 1 (.opn 0)], 25, 1, none⟩),
  (35, ⟨[.int .i64 (.ofNat 1), .int .i64 (.ofNat 3)], 3, 1, none⟩),
  (78, ⟨[.slice 86 0 4 (.opn 0)], 175, 0, none⟩),
  (86, ⟨[.int .i64 (.ofNat 0), .int .i64 (.ofNat 1), .int .i64 (.ofNat 2), .int .i64 (.ofNat 3)], 3, 1, none⟩),
  (87, ⟨[.snil, .snil, .snil, .snil], 179, 0, none⟩),
  (88, ⟨[.slice 130 0 1 (.opn 0)], 100, 0, none⟩),
  (89, ⟨[], 0, 0, some (.map [(0, .agg [.int .i64 (.ofNat 1), .int .i64 (.ofNat 1)], .c (.bool true)), (1, .agg [.int .i64 (.ofNat 4), .int .i64 (.ofNat 1)], .c (.bool true))] 2)⟩),
  (90, ⟨[], 0, 0, some (.map [] 0)⟩),
  (91, ⟨[.snil, .snil, .map 90, .int .i64 (.ofNat 0)], 178, 0, none⟩),
  (92, ⟨[.ptr 5 0, .ptr 15 0, .ptr 78 0, .slice 122 0 4 (.opn 0), .slice 125 0 4 (.opn 0), .slice 128 0 4 (.opn 0), .slice 87 0 4 (.fix 4), .ptr 88 0, .map 89, .ptr 91 0], 106, 0, none⟩),
  (93, ⟨[.snil], 100, 0, none⟩),
  (96, ⟨[.snil], 100, 0, none⟩),
  (99, ⟨[.snil], 100, 0, none⟩),
  (102, ⟨[.snil], 100, 0, none⟩),
  (105, ⟨[.snil], 100, 0, none⟩),
  (108, ⟨[.snil], 100, 0, none⟩),
  (111, ⟨[.snil], 100, 0, none⟩),
  (114, ⟨[.snil], 100, 0, none⟩),
  (117, ⟨[.snil], 100, 0, none⟩),
  (120, ⟨[.snil], 100, 0, none⟩),
  (122, ⟨[.ptr 93 0, .ptr 102 0, .ptr 111 0, .ptr 120 0], 97, 1, none⟩),
  (123, ⟨[.snil], 100, 0, none⟩),
  (125, ⟨[.ptr 96 0, .ptr 105 0, .ptr 114 0, .ptr 123 0], 97, 1, none⟩),
  (126, ⟨[.snil], 100, 0, none⟩),
  (128, ⟨[.ptr 99 0, .ptr 108 0, .ptr 117 0, .ptr 126 0], 97, 1, none⟩),
  (130, ⟨[.int .u64 (.ofNat 3)], 192, 1, none⟩)], 569⟩
theorem CallsChain_1t_s3_ok : CallsChain_1t_h4.rep CallsChain_1t_s3_b CallsChain_1t_s3 = true := by kernel_rfl
noncomputable def CallsChain_1t_h5 : HK := CallsChain_1t_h4.repl CallsChain_1t_s3_b CallsChain_1t_s3 CallsChain_1t_s3_ok
theorem CallsChain_1t_run : isBool true (runW CallsChain_1t_h5.K 10 [ai (Int.ofNat 1), ab true] s0) = true := by kernel_rfl
theorem CallsChain_1t_law {args : Array Value} (ha : VAs (fun _ => none) [ai (Int.ofNat 1), ab true] args.toList) (w : World) (hT : Tab w) :
    Calls Tryz.prog 10 args w fun e w' => Below w.heap.size w w' ∧ e = .returned (.bool true) := CallsChain_1t_h5.law CallsChain_1t_run ha w hT
noncomputable def CallsChain_1f_m0 : MM := ⟨[100], [(0, ⟨[.snil, .int .i64 (.ofNat 0), .int .i64 (.ofNat 0)], 63, 0, none⟩),
  (1, ⟨[.int .i64 (.ofNat 0), .int .i64 (.ofNat 0)], 36, 0, none⟩),
  (3, ⟨[.slice 7 0 2 (.opn 0), .int .i64 (.ofNat 3), .int .i64 (.ofNat 0), .int .i64 (.ofNat 0), .int .i64 (.ofNat 0)], 51, 0, none⟩),
  (5, ⟨[.snil, .slice 0 0 1 (.fix 1), .snil, .snil, .slice 12 0 2 (.opn 0), .int .i64 (.ofNat 0)], 44, 0, none⟩),
  (7, ⟨[.int .i64 (.ofNat 1), .int .i64 (.ofNat 0), .int .i64 (.ofNat 0), .int .i64 (.ofNat 0), .int .i64 (.ofNat 7), .snil, .int .i64 (.ofNat 12), .int .i64 (.ofNat 0), .int .i64 (.ofNat 0), .int .i64 (.ofNat 0), .int .i64 (.ofNat 1), .snil], 53, 6, none⟩),
  (8, ⟨[.int .i64 (.ofNat 0), .int .i64 (.ofNat 0)], 36, 0, none⟩),
  (9, ⟨[.int .i64 (.ofNat 1), .int .i64 (.ofNat 0), .int .i64 (.ofNat 0), .int .i64 (.ofNat 0), .int .i64 (.ofNat 0), .snil], 53, 0, none⟩),
  (10, ⟨[.slice 9 0 1 (.fix 1), .int .i64 (.ofNat 3), .int .i64 (.ofNat 0), .int .i64 (.ofNat 0), .int .i64 (.ofNat 0)], 51, 0, none⟩),
  (12, ⟨[.int .i64 (.ofNat 0), .slice 1 0 1 (.fix 1), .slice 3 0 1 (.fix 1), .int .i64 (.ofNat 0), .slice 8 0 1 (.fix 1), .slice 10 0 1 (.fix 1)], 48, 3, none⟩)], 13, [⟨100, 0, [.v (.c (.ptr 5 0))], .v (.c (.nili))⟩]⟩
theorem CallsChain_1f_m0_ok : H0.tbl CallsChain_1f_m0 = true := by kernel_rfl
noncomputable def CallsChain_1f_h1 : HK := H0.memo CallsChain_1f_m0 CallsChain_1f_m0_ok
noncomputable def CallsChain_1f_m1 : MM := ⟨[71], [(3, ⟨[.slice 7 0 2 (.opn 0), .int .i64 (.ofNat 3), .int .i64 (.ofNat 0), .int .i64 (.ofNat 0), .int .i64 (.ofNat 0)], 51, 0, none⟩),
  (5, ⟨[.snil, .slice 0 0 1 (.fix 1), .snil, .snil, .slice 12 0 2 (.opn 0), .int .i64 (.ofNat 0)], 44, 0, none⟩),
  (10, ⟨[.slice 9 0 1 (.fix 1), .int .i64 (.ofNat 3), .int .i64 (.ofNat 0), .int .i64 (.ofNat 0), .int .i64 (.ofNat 0)], 51, 0, none⟩),
  (12, ⟨[.int .i64 (.ofNat 0), .slice 1 0 1 (.fix 1), .slice 3 0 1 (.fix 1), .int .i64 (.ofNat 0), .slice 8 0 1 (.fix 1), .slice 10 0 1 (.fix 1)], 48, 3, none⟩)], 46, [⟨71, 0, [.v (.c (.ptr 5 0)), .v (.c (.int .i64 (.ofNat 0)))], .tup [.agg [.int .i64 (.ofNat 0), .int .i64 (.ofNat 0), .int .i64 (.ofNat 0)], .c (.bool true)]⟩,
  ⟨71, 1, [.v (.c (.ptr 5 0)), .v (.c (.int .i64 (.ofNat 1)))], .tup [.agg [.int .i64 (.ofNat 0), .int .i64 (.ofNat 0), .int .i64 (.ofNat 1)], .c (.bool true)]⟩,
  ⟨71, 2, [.v (.c (.ptr 5 0)), .v (.c (.int .i64 (.ofNat 2)))], .tup [.agg [.int .i64 (.ofNat 0), .int .i64 (.ofNat 0), .int .i64 (.ofNat 2)], .c (.bool true)]⟩,
  ⟨71, 3, [.v (.c (.ptr 5 0)), .v (.c (.int .i64 (.ofNat 3)))], .tup [.agg [.int .i64 (.ofNat 1), .int .i64 (.ofNat 0), .int .i64 (.ofNat 0)], .c (.bool true)]⟩,
  ⟨71, 4, [.v (.c (.ptr 5 0)), .v (.c (.int .i64 (.ofNat 4)))], .tup [.agg [.int .i64 (.ofNat 1), .int .i64 (.ofNat 0), .int .i64 (.ofNat 1)], .c (.bool true)]⟩]⟩
theorem CallsChain_1f_m1_ok : CallsChain_1f_h1.tbl CallsChain_1f_m1 = true := by kernel_rfl
noncomputable def CallsChain_1f_h2 : HK := CallsChain_1f_h1.memo CallsChain_1f_m1 CallsChain_1f_m1_ok
noncomputable def CallsChain_1f_s1_b : Bls := [(0, ⟨[.snil, .int .i64 (.ofNat 0), .int .i64 (.ofNat 0)], 63, 0, none⟩),
  (1, ⟨[.int .i64 (.ofNat 0), .int .i64 (.ofNat 0)], 36, 0, none⟩),
  (3, ⟨[.slice 7 0 2 (.opn 0), .int .i64 (.ofNat 3), .int .i64 (.ofNat 0), .int .i64 (.ofNat 0), .int .i64 (.ofNat 0)], 51, 0, none⟩),
  (5, ⟨[.snil, .slice 0 0 1 (.fix 1), .snil, .snil, .slice 12 0 2 (.opn 0), .int .i64 (.ofNat 0)], 44, 0, none⟩),
  (7, ⟨[.int .i64 (.ofNat 1), .int .i64 (.ofNat 0), .int .i64 (.ofNat 0), .int .i64 (.ofNat 0), .int .i64 (.ofNat 7), .snil, .int .i64 (.ofNat 12), .int .i64 (.ofNat 0), .int .i64 (.ofNat 0), .int .i64 (.ofNat 0), .int .i64 (.ofNat 1), .snil], 53, 6, none⟩),
  (8, ⟨[.int .i64 (.ofNat 0), .int .i64 (.ofNat 0)], 36, 0, none⟩),
  (9, ⟨[.int .i64 (.ofNat 1), .int .i64 (.ofNat 0), .int .i64 (.ofNat 0), .int .i64 (.ofNat 0), .int .i64 (.ofNat 0), .snil], 53, 0, none⟩),
  (10, ⟨[.slice 9 0 1 (.fix 1), .int .i64 (.ofNat 3), .int .i64 (.ofNat 0), .int .i64 (.ofNat 0), .int .i64 (.ofNat 0)], 51, 0, none⟩),
  (12, ⟨[.int .i64 (.ofNat 0), .slice 1 0 1 (.fix 1), .slice 3 0 1 (.fix 1), .int .i64 (.ofNat 0), .slice 8 0 1 (.fix 1), .slice 10 0 1 (.fix 1)], 48, 3, none⟩)]
noncomputable def CallsChain_1f_s1 : RE := ⟨56, [.v (.c (.ptr 5 0))], 13, .v (.c (.ptr 13 0)), [(13, ⟨[.slice 29 0 2 (.opn 0), .slice 33 0 2 (.opn 0), .snil, .snil, .snil, .int .i64 (.ofNat 4)], 173, 0, none⟩),
  (17, ⟨[.int .i64 (.ofNat 0)], 3, 1, none⟩),
  (27, ⟨[.int .i64 (.ofNat 2)], 3, 1, none⟩),
  (29, ⟨[.slice 17 0 1 (.opn 0), .slice 27 0 1 (.opn 0)], 25, 1, none⟩),
  (33, ⟨[.int .i64 (.ofNat 1), .int .i64 (.ofNat 3)], 3, 1, none⟩)], 69⟩
theorem CallsChain_1f_s1_ok : CallsChain_1f_h2.srp CallsChain_1f_s1_b CallsChain_1f_s1 = true := by kernel_rfl
noncomputable def CallsChain_1f_h3 : HK := CallsChain_1f_h2.srep CallsChain_1f_s1_b CallsChain_1f_s1 CallsChain_1f_s1_ok
noncomputable def CallsChain_1f_s2_b : Bls := [(0, ⟨[.snil, .int .i64 (.ofNat 0), .int .i64 (.ofNat 0)], 63, 0, none⟩),
  (1, ⟨[.int .i64 (.ofNat 0), .int .i64 (.ofNat 0)], 36, 0, none⟩),
  (3, ⟨[.slice 7 0 2 (.opn 0), .int .i64 (.ofNat 3), .int .i64 (.ofNat 0), .int .i64 (.ofNat 0), .int .i64 (.ofNat 0)], 51, 0, none⟩),
  (5, ⟨[.snil, .slice 0 0 1 (.fix 1), .snil, .snil, .slice 12 0 2 (.opn 0), .int .i64 (.ofNat 0)], 44, 0, none⟩),
  (7, ⟨[.int .i64 (.ofNat 1), .int .i64 (.ofNat 0), .int .i64 (.ofNat 0), .int .i64 (.ofNat 0), .int .i64 (.ofNat 7), .snil, .int .i64 (.ofNat 12), .int .i64 (.ofNat 0), .int .i64 (.ofNat 0), .int .i64 (.ofNat 0), .int .i64 (.ofNat 1), .snil], 53, 6, none⟩),
  (8, ⟨[.int .i64 (.ofNat 0), .int .i64 (.ofNat 0)], 36, 0, none⟩),
  (9, ⟨[.int .i64 (.ofNat 1), .int .i64 (.ofNat 0), .int .i64 (.ofNat 0), .int .i64 (.ofNat 0), .int .i64 (.ofNat 0), .snil], 53, 0, none⟩),
  (10, ⟨[.slice 9 0 1 (.fix 1), .int .i64 (.ofNat 3), .int .i64 (.ofNat 0), .int .i64 (.ofNat 0), .int .i64 (.ofNat 0)], 51, 0, none⟩),
  (12, ⟨[.int .i64 (.ofNat 0), .slice 1 0 1 (.fix 1), .slice 3 0 1 (.fix 1), .int .i64 (.ofNat 0), .slice 8 0 1 (.fix 1), .slice 10 0 1 (.fix 1)], 48, 3, none⟩)]
noncomputable def CallsChain_1f_s2 : RE := ⟨79, [.v (.c (.ptr 5 0))], 179, .v (.c (.slice 188 0 5 (.opn 0))), [(188, ⟨[.int .i64 (.ofNat 0), .int .i64 (.ofNat 0), .int .i64 (.ofNat 0), .int .i64 (.ofNat 0), .int .i64 (.ofNat 0), .int .i64 (.ofNat 1), .int .i64 (.ofNat 0), .int .i64 (.ofNat 0), .int .i64 (.ofNat 2), .int .i64 (.ofNat 1), .int .i64 (.ofNat 0), .int .i64 (.ofNat 0), .int .i64 (.ofNat 1), .int .i64 (.ofNat 0), .int .i64 (.ofNat 1)], 117, 3, none⟩)], 189⟩
theorem CallsChain_1f_s2_ok : CallsChain_1f_h3.srp CallsChain_1f_s2_b CallsChain_1f_s2 = true := by kernel_rfl
noncomputable def CallsChain_1f_h4 : HK := CallsChain_1f_h3.srep CallsChain_1f_s2_b CallsChain_1f_s2 CallsChain_1f_s2_ok
noncomputable def CallsChain_1f_s3_b : Bls := [(0, ⟨[.snil, .int .i64 (.ofNat 0), .int .i64 (.ofNat 0)], 63, 0, none⟩),
  (1, ⟨[.int .i64 (.ofNat 0), .int .i64 (.ofNat 0)], 36, 0, none⟩),
  (3, ⟨[.slice 7 0 2 (.opn 0), .int .i64 (.ofNat 3), .int .i64 (.ofNat 0), .int .i64 (.ofNat 0), .int .i64 (.ofNat 0)], 51, 0, none⟩),
  (5, ⟨[.snil, .slice 0 0 1 (.fix 1), .snil, .snil, .slice 12 0 2 (.opn 0), .int .i64 (.ofNat 0)], 44, 0, none⟩),
  (7, ⟨[.int .i64 (.ofNat 1), .int .i64 (.ofNat 0), .int .i64 (.ofNat 0), .int .i64 (.ofNat 0), .int .i64 (.ofNat 7), .snil, .int .i64 (.ofNat 12), .int .i64 (.ofNat 0), .int .i64 (.ofNat 0), .int .i64 (.ofNat 0), .int .i64 (.ofNat 1), .snil], 53, 6, none⟩),
  (8, ⟨[.int .i64 (.ofNat 0), .int .i64 (.ofNat 0)], 36, 0, none⟩),
  (9, ⟨[.int .i64 (.ofNat 1), .int .i64 (.ofNat 0), .int .i64 (.ofNat 0), .int .i64 (.ofNat 0), .int .i64 (.ofNat 0), .snil], 53, 0, none⟩),
  (10, ⟨[.slice 9 0 1 (.fix 1), .int .i64 (.ofNat 3), .int .i64 (.ofNat 0), .int .i64 (.ofNat 0), .int .i64 (.ofNat 0)], 51, 0, none⟩),
  (12, ⟨[.int .i64 (.ofNat 0), .slice 1 0 1 (.fix 1), .slice 3 0 1 (.fix 1), .int .i64 (.ofNat 0), .slice 8 0 1 (.fix 1), .slice 10 0 1 (.fix 1)], 48, 3, none⟩)]
noncomputable def CallsChain_1f_s3 : RE := ⟨15, [.v (.c (.ptr 5 0)), .v (.c (.snil))], 13, .v (.c (.ptr 83 0)), [(13, ⟨[.slice 29 0 2 (.opn 0), .slice 33 0 2 (.opn 0), .snil, .snil, .snil, .int .i64 (.ofNat 4)], 173, 0, none⟩),
  (17, ⟨[.int .i64 (.ofNat 0)], 3, 1, none⟩),
  (27, ⟨[.int .i64 (.ofNat 2)], 3, 1, none⟩),
  (29, ⟨[.slice 17 0 1 (.opn 0), .slice 27 0 1 (.opn 0)], 25, 1, none⟩),
  (33, ⟨[.int .i64 (.ofNat 1), .int .i64 (.ofNat 3)], 3, 1, none⟩),
  (69, ⟨[.slice 77 0 4 (.opn 0)], 175, 0, none⟩),
  (77, ⟨[.int .i64 (.ofNat 0), .int .i64 (.ofNat 1), .int .i64 (.ofNat 2), .int .i64 (.ofNat 3)], 3, 1, none⟩),
  (78, ⟨[.snil, .snil, .snil, .snil], 179, 0, none⟩),
  (79, ⟨[.slice 121 0 1 (.opn 0)], 100, 0, none⟩),
  (80, ⟨[], 0, 0, some (.map [(0, .agg [.int .i64 (.ofNat 1), .int .i64 (.ofNat 1)], .c (.bool true))] 1)⟩),
  (81, ⟨[], 0, 0, some (.map [] 0)⟩),
  (82, ⟨[.snil, .snil, .map 81, .int .i64 (.ofNat 0)], 178, 0, none⟩),
  (83, ⟨[.ptr 5 0, .ptr 13 0, .ptr 69 0, .slice 113 0 4 (.opn 0), .slice 116 0 4 (.opn 0), .slice 119 0 4 (.opn 0), .slice 78 0 4 (.fix 4), .ptr 79 0, .map 80, .ptr 82 0], 106, 0, none⟩),
  (84, ⟨[.snil], 100, 0, none⟩),
  (87, ⟨[.snil], 100, 0, none⟩),
  (90, ⟨[.snil], 100, 0, none⟩),
  (93, ⟨[.snil], 100, 0, none⟩),
  (96, ⟨[.snil], 100, 0, none⟩),
  (99, ⟨[.snil], 100, 0, none⟩),
  (102, ⟨[.snil], 100, 0, none⟩),
  (105, ⟨[.snil], 100, 0, none⟩),
  (108, ⟨[.snil], 100, 0, none⟩),
  (111, ⟨[.snil], 100, 0, none⟩),
  (113, ⟨[.ptr 84 0, .ptr 93 0, .ptr 102 0, .ptr 111 0], 97, 1, none⟩),
  (114, ⟨[.snil], 100, 0, none⟩),
  (116, ⟨[.ptr 87 0, .ptr 96 0, .ptr 105 0, .ptr 114 0], 97, 1, none⟩),
  (117, ⟨[.snil], 100, 0, none⟩),
  (119, ⟨[.ptr 90 0, .ptr 99 0, .ptr 108 0, .ptr 117 0], 97, 1, none⟩),
  (121, ⟨[.int .u64 (.ofNat 3)], 192, 1, none⟩)], 438⟩
theorem CallsChain_1f_s3_ok : CallsChain_1f_h4.rep CallsChain_1f_s3_b CallsChain_1f_s3 = true := by kernel_rfl
noncomputable def CallsChain_1f_h5 : HK := CallsChain_1f_h4.repl CallsChain_1f_s3_b CallsChain_1f_s3 CallsChain_1f_s3_ok
theorem CallsChain_1f_run : isBool true (runW CallsChain_1f_h5.K 10 [ai (Int.ofNat 1), ab false] s0) = true := by kernel_rfl
theorem CallsChain_1f_law {args : Array Value} (ha : VAs (fun _ => none) [ai (Int.ofNat 1), ab false] args.toList) (w : World) (hT : Tab w) :
    Calls Tryz.prog 10 args w fun e w' => Below w.heap.size w w' ∧ e = .returned (.bool true) := CallsChain_1f_h5.law CallsChain_1f_run ha w hT
end Go.Proofs.YtjjfahgdmaikpaaGreatDoor
