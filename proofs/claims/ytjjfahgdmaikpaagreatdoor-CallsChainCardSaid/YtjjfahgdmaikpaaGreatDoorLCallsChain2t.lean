/- Tables of calls, and a run that uses them. -/
import Derived.Test.YtjjfahgdmaikpaaGreatDoorLn19
namespace Go.Proofs.YtjjfahgdmaikpaaGreatDoor
open Go Go.RowKit Ev
set_option maxRecDepth 100000
set_option linter.unusedVariables false
noncomputable def CallsChain_2t_m0 : MM := ⟨[100], [(0, ⟨[.snil, .int .i64 (.ofNat 0), .int .i64 (.ofNat 0)], 63, 0, none⟩),
  (1, ⟨[.int .i64 (.ofNat 0), .int .i64 (.ofNat 0)], 36, 0, none⟩),
  (3, ⟨[.slice 7 0 2 (.opn 0), .int .i64 (.ofNat 3), .int .i64 (.ofNat 0), .int .i64 (.ofNat 0), .int .i64 (.ofNat 0)], 51, 0, none⟩),
  (5, ⟨[.snil, .slice 0 0 1 (.fix 1), .snil, .snil, .slice 19 0 3 (.opn 0), .int .i64 (.ofNat 0)], 44, 0, none⟩),
  (7, ⟨[.int .i64 (.ofNat 1), .int .i64 (.ofNat 0), .int .i64 (.ofNat 0), .int .i64 (.ofNat 0), .int .i64 (.ofNat 7), .snil, .int .i64 (.ofNat 12), .int .i64 (.ofNat 0), .int .i64 (.ofNat 0), .int .i64 (.ofNat 0), .int .i64 (.ofNat 1), .snil], 53, 6, none⟩),
  (8, ⟨[.int .i64 (.ofNat 0), .int .i64 (.ofNat 0)], 36, 0, none⟩),
  (10, ⟨[.slice 14 0 2 (.opn 0), .int .i64 (.ofNat 3), .int .i64 (.ofNat 0), .int .i64 (.ofNat 0), .int .i64 (.ofNat 0)], 51, 0, none⟩),
  (14, ⟨[.int .i64 (.ofNat 1), .int .i64 (.ofNat 0), .int .i64 (.ofNat 0), .int .i64 (.ofNat 0), .int .i64 (.ofNat 0), .snil, .int .i64 (.ofNat 12), .int .i64 (.ofNat 0), .int .i64 (.ofNat 0), .int .i64 (.ofNat 0), .int .i64 (.ofNat 2), .snil], 53, 6, none⟩),
  (15, ⟨[.int .i64 (.ofNat 0), .int .i64 (.ofNat 0)], 36, 0, none⟩),
  (17, ⟨[.slice 21 0 2 (.opn 0), .int .i64 (.ofNat 3), .int .i64 (.ofNat 0), .int .i64 (.ofNat 0), .int .i64 (.ofNat 0)], 51, 0, none⟩),
  (19, ⟨[.int .i64 (.ofNat 0), .slice 1 0 1 (.fix 1), .slice 3 0 1 (.fix 1), .int .i64 (.ofNat 0), .slice 8 0 1 (.fix 1), .slice 10 0 1 (.fix 1), .int .i64 (.ofNat 0), .slice 15 0 1 (.fix 1), .slice 17 0 1 (.fix 1)], 48, 3, none⟩),
  (21, ⟨[.int .i64 (.ofNat 1), .int .i64 (.ofNat 0), .int .i64 (.ofNat 0), .int .i64 (.ofNat 0), .int .i64 (.ofNat 0), .snil, .int .i64 (.ofNat 12), .int .i64 (.ofNat 0), .int .i64 (.ofNat 0), .int .i64 (.ofNat 0), .int .i64 (.ofNat 1), .snil], 53, 6, none⟩)], 22, [⟨100, 0, [.v (.c (.ptr 5 0))], .v (.c (.nili))⟩]⟩
theorem CallsChain_2t_m0_ok : H0.tbl CallsChain_2t_m0 = true := by kernel_rfl
noncomputable def CallsChain_2t_h1 : HK := H0.memo CallsChain_2t_m0 CallsChain_2t_m0_ok
noncomputable def CallsChain_2t_m1 : MM := ⟨[71], [(3, ⟨[.slice 7 0 2 (.opn 0), .int .i64 (.ofNat 3), .int .i64 (.ofNat 0), .int .i64 (.ofNat 0), .int .i64 (.ofNat 0)], 51, 0, none⟩),
  (5, ⟨[.snil, .slice 0 0 1 (.fix 1), .snil, .snil, .slice 19 0 3 (.opn 0), .int .i64 (.ofNat 0)], 44, 0, none⟩),
  (10, ⟨[.slice 14 0 2 (.opn 0), .int .i64 (.ofNat 3), .int .i64 (.ofNat 0), .int .i64 (.ofNat 0), .int .i64 (.ofNat 0)], 51, 0, none⟩),
  (17, ⟨[.slice 21 0 2 (.opn 0), .int .i64 (.ofNat 3), .int .i64 (.ofNat 0), .int .i64 (.ofNat 0), .int .i64 (.ofNat 0)], 51, 0, none⟩),
  (19, ⟨[.int .i64 (.ofNat 0), .slice 1 0 1 (.fix 1), .slice 3 0 1 (.fix 1), .int .i64 (.ofNat 0), .slice 8 0 1 (.fix 1), .slice 10 0 1 (.fix 1), .int .i64 (.ofNat 0), .slice 15 0 1 (.fix 1), .slice 17 0 1 (.fix 1)], 48, 3, none⟩)], 73, [⟨71, 0, [.v (.c (.ptr 5 0)), .v (.c (.int .i64 (.ofNat 0)))], .tup [.agg [.int .i64 (.ofNat 0), .int .i64 (.ofNat 0), .int .i64 (.ofNat 0)], .c (.bool true)]⟩,
  ⟨71, 1, [.v (.c (.ptr 5 0)), .v (.c (.int .i64 (.ofNat 1)))], .tup [.agg [.int .i64 (.ofNat 0), .int .i64 (.ofNat 0), .int .i64 (.ofNat 1)], .c (.bool true)]⟩,
  ⟨71, 2, [.v (.c (.ptr 5 0)), .v (.c (.int .i64 (.ofNat 2)))], .tup [.agg [.int .i64 (.ofNat 0), .int .i64 (.ofNat 0), .int .i64 (.ofNat 2)], .c (.bool true)]⟩,
  ⟨71, 3, [.v (.c (.ptr 5 0)), .v (.c (.int .i64 (.ofNat 3)))], .tup [.agg [.int .i64 (.ofNat 1), .int .i64 (.ofNat 0), .int .i64 (.ofNat 0)], .c (.bool true)]⟩,
  ⟨71, 4, [.v (.c (.ptr 5 0)), .v (.c (.int .i64 (.ofNat 4)))], .tup [.agg [.int .i64 (.ofNat 1), .int .i64 (.ofNat 0), .int .i64 (.ofNat 1)], .c (.bool true)]⟩,
  ⟨71, 5, [.v (.c (.ptr 5 0)), .v (.c (.int .i64 (.ofNat 5)))], .tup [.agg [.int .i64 (.ofNat 1), .int .i64 (.ofNat 0), .int .i64 (.ofNat 2)], .c (.bool true)]⟩,
  ⟨71, 6, [.v (.c (.ptr 5 0)), .v (.c (.int .i64 (.ofNat 6)))], .tup [.agg [.int .i64 (.ofNat 2), .int .i64 (.ofNat 0), .int .i64 (.ofNat 0)], .c (.bool true)]⟩,
  ⟨71, 7, [.v (.c (.ptr 5 0)), .v (.c (.int .i64 (.ofNat 7)))], .tup [.agg [.int .i64 (.ofNat 2), .int .i64 (.ofNat 0), .int .i64 (.ofNat 1)], .c (.bool true)]⟩,
  ⟨71, 8, [.v (.c (.ptr 5 0)), .v (.c (.int .i64 (.ofNat 8)))], .tup [.agg [.int .i64 (.ofNat 2), .int .i64 (.ofNat 0), .int .i64 (.ofNat 2)], .c (.bool true)]⟩]⟩
theorem CallsChain_2t_m1_ok : CallsChain_2t_h1.tbl CallsChain_2t_m1 = true := by kernel_rfl
noncomputable def CallsChain_2t_h2 : HK := CallsChain_2t_h1.memo CallsChain_2t_m1 CallsChain_2t_m1_ok
noncomputable def CallsChain_2t_s1_b : Bls := [(0, ⟨[.snil, .int .i64 (.ofNat 0), .int .i64 (.ofNat 0)], 63, 0, none⟩),
  (1, ⟨[.int .i64 (.ofNat 0), .int .i64 (.ofNat 0)], 36, 0, none⟩),
  (3, ⟨[.slice 7 0 2 (.opn 0), .int .i64 (.ofNat 3), .int .i64 (.ofNat 0), .int .i64 (.ofNat 0), .int .i64 (.ofNat 0)], 51, 0, none⟩),
  (5, ⟨[.snil, .slice 0 0 1 (.fix 1), .snil, .snil, .slice 19 0 3 (.opn 0), .int .i64 (.ofNat 0)], 44, 0, none⟩),
  (7, ⟨[.int .i64 (.ofNat 1), .int .i64 (.ofNat 0), .int .i64 (.ofNat 0), .int .i64 (.ofNat 0), .int .i64 (.ofNat 7), .snil, .int .i64 (.ofNat 12), .int .i64 (.ofNat 0), .int .i64 (.ofNat 0), .int .i64 (.ofNat 0), .int .i64 (.ofNat 1), .snil], 53, 6, none⟩),
  (8, ⟨[.int .i64 (.ofNat 0), .int .i64 (.ofNat 0)], 36, 0, none⟩),
  (10, ⟨[.slice 14 0 2 (.opn 0), .int .i64 (.ofNat 3), .int .i64 (.ofNat 0), .int .i64 (.ofNat 0), .int .i64 (.ofNat 0)], 51, 0, none⟩),
  (14, ⟨[.int .i64 (.ofNat 1), .int .i64 (.ofNat 0), .int .i64 (.ofNat 0), .int .i64 (.ofNat 0), .int .i64 (.ofNat 0), .snil, .int .i64 (.ofNat 12), .int .i64 (.ofNat 0), .int .i64 (.ofNat 0), .int .i64 (.ofNat 0), .int .i64 (.ofNat 2), .snil], 53, 6, none⟩),
  (15, ⟨[.int .i64 (.ofNat 0), .int .i64 (.ofNat 0)], 36, 0, none⟩),
  (17, ⟨[.slice 21 0 2 (.opn 0), .int .i64 (.ofNat 3), .int .i64 (.ofNat 0), .int .i64 (.ofNat 0), .int .i64 (.ofNat 0)], 51, 0, none⟩),
  (19, ⟨[.int .i64 (.ofNat 0), .slice 1 0 1 (.fix 1), .slice 3 0 1 (.fix 1), .int .i64 (.ofNat 0), .slice 8 0 1 (.fix 1), .slice 10 0 1 (.fix 1), .int .i64 (.ofNat 0), .slice 15 0 1 (.fix 1), .slice 17 0 1 (.fix 1)], 48, 3, none⟩),
  (21, ⟨[.int .i64 (.ofNat 1), .int .i64 (.ofNat 0), .int .i64 (.ofNat 0), .int .i64 (.ofNat 0), .int .i64 (.ofNat 0), .snil, .int .i64 (.ofNat 12), .int .i64 (.ofNat 0), .int .i64 (.ofNat 0), .int .i64 (.ofNat 0), .int .i64 (.ofNat 1), .snil], 53, 6, none⟩)]
noncomputable def CallsChain_2t_s1 : RE := ⟨56, [.v (.c (.ptr 5 0))], 22, .v (.c (.ptr 22 0)), [(22, ⟨[.slice 48 0 3 (.opn 0), .slice 52 0 3 (.opn 0), .snil, .snil, .snil, .int .i64 (.ofNat 6)], 173, 0, none⟩),
  (26, ⟨[.int .i64 (.ofNat 0)], 3, 1, none⟩),
  (36, ⟨[.int .i64 (.ofNat 2)], 3, 1, none⟩),
  (46, ⟨[.int .i64 (.ofNat 4)], 3, 1, none⟩),
  (48, ⟨[.slice 26 0 1 (.opn 0), .slice 36 0 1 (.opn 0), .slice 46 0 1 (.opn 0)], 25, 1, none⟩),
  (52, ⟨[.int .i64 (.ofNat 1), .int .i64 (.ofNat 3), .int .i64 (.ofNat 5)], 3, 1, none⟩)], 116⟩
theorem CallsChain_2t_s1_ok : CallsChain_2t_h2.srp CallsChain_2t_s1_b CallsChain_2t_s1 = true := by kernel_rfl
noncomputable def CallsChain_2t_h3 : HK := CallsChain_2t_h2.srep CallsChain_2t_s1_b CallsChain_2t_s1 CallsChain_2t_s1_ok
noncomputable def CallsChain_2t_s2_b : Bls := [(0, ⟨[.snil, .int .i64 (.ofNat 0), .int .i64 (.ofNat 0)], 63, 0, none⟩),
  (1, ⟨[.int .i64 (.ofNat 0), .int .i64 (.ofNat 0)], 36, 0, none⟩),
  (3, ⟨[.slice 7 0 2 (.opn 0), .int .i64 (.ofNat 3), .int .i64 (.ofNat 0), .int .i64 (.ofNat 0), .int .i64 (.ofNat 0)], 51, 0, none⟩),
  (5, ⟨[.snil, .slice 0 0 1 (.fix 1), .snil, .snil, .slice 19 0 3 (.opn 0), .int .i64 (.ofNat 0)], 44, 0, none⟩),
  (7, ⟨[.int .i64 (.ofNat 1), .int .i64 (.ofNat 0), .int .i64 (.ofNat 0), .int .i64 (.ofNat 0), .int .i64 (.ofNat 7), .snil, .int .i64 (.ofNat 12), .int .i64 (.ofNat 0), .int .i64 (.ofNat 0), .int .i64 (.ofNat 0), .int .i64 (.ofNat 1), .snil], 53, 6, none⟩),
  (8, ⟨[.int .i64 (.ofNat 0), .int .i64 (.ofNat 0)], 36, 0, none⟩),
  (10, ⟨[.slice 14 0 2 (.opn 0), .int .i64 (.ofNat 3), .int .i64 (.ofNat 0), .int .i64 (.ofNat 0), .int .i64 (.ofNat 0)], 51, 0, none⟩),
  (14, ⟨[.int .i64 (.ofNat 1), .int .i64 (.ofNat 0), .int .i64 (.ofNat 0), .int .i64 (.ofNat 0), .int .i64 (.ofNat 0), .snil, .int .i64 (.ofNat 12), .int .i64 (.ofNat 0), .int .i64 (.ofNat 0), .int .i64 (.ofNat 0), .int .i64 (.ofNat 2), .snil], 53, 6, none⟩),
  (15, ⟨[.int .i64 (.ofNat 0), .int .i64 (.ofNat 0)], 36, 0, none⟩),
  (17, ⟨[.slice 21 0 2 (.opn 0), .int .i64 (.ofNat 3), .int .i64 (.ofNat 0), .int .i64 (.ofNat 0), .int .i64 (.ofNat 0)], 51, 0, none⟩),
  (19, ⟨[.int .i64 (.ofNat 0), .slice 1 0 1 (.fix 1), .slice 3 0 1 (.fix 1), .int .i64 (.ofNat 0), .slice 8 0 1 (.fix 1), .slice 10 0 1 (.fix 1), .int .i64 (.ofNat 0), .slice 15 0 1 (.fix 1), .slice 17 0 1 (.fix 1)], 48, 3, none⟩),
  (21, ⟨[.int .i64 (.ofNat 1), .int .i64 (.ofNat 0), .int .i64 (.ofNat 0), .int .i64 (.ofNat 0), .int .i64 (.ofNat 0), .snil, .int .i64 (.ofNat 12), .int .i64 (.ofNat 0), .int .i64 (.ofNat 0), .int .i64 (.ofNat 0), .int .i64 (.ofNat 1), .snil], 53, 6, none⟩)]
noncomputable def CallsChain_2t_s2 : RE := ⟨79, [.v (.c (.ptr 5 0))], 286, .v (.c (.slice 303 0 9 (.opn 0))), [(303, ⟨[.int .i64 (.ofNat 0), .int .i64 (.ofNat 0), .int .i64 (.ofNat 0), .int .i64 (.ofNat 0), .int .i64 (.ofNat 0), .int .i64 (.ofNat 1), .int .i64 (.ofNat 0), .int .i64 (.ofNat 0), .int .i64 (.ofNat 2), .int .i64 (.ofNat 1), .int .i64 (.ofNat 0), .int .i64 (.ofNat 0), .int .i64 (.ofNat 1), .int .i64 (.ofNat 0), .int .i64 (.ofNat 1), .int .i64 (.ofNat 1), .int .i64 (.ofNat 0), .int .i64 (.ofNat 2), .int .i64 (.ofNat 2), .int .i64 (.ofNat 0), .int .i64 (.ofNat 0), .int .i64 (.ofNat 2), .int .i64 (.ofNat 0), .int .i64 (.ofNat 1), .int .i64 (.ofNat 2), .int .i64 (.ofNat 0), .int .i64 (.ofNat 2)], 117, 3, none⟩)], 304⟩
theorem CallsChain_2t_s2_ok : CallsChain_2t_h3.srp CallsChain_2t_s2_b CallsChain_2t_s2 = true := by kernel_rfl
noncomputable def CallsChain_2t_h4 : HK := CallsChain_2t_h3.srep CallsChain_2t_s2_b CallsChain_2t_s2 CallsChain_2t_s2_ok
noncomputable def CallsChain_2t_s3_b : Bls := [(0, ⟨[.snil, .int .i64 (.ofNat 0), .int .i64 (.ofNat 0)], 63, 0, none⟩),
  (1, ⟨[.int .i64 (.ofNat 0), .int .i64 (.ofNat 0)], 36, 0, none⟩),
  (3, ⟨[.slice 7 0 2 (.opn 0), .int .i64 (.ofNat 3), .int .i64 (.ofNat 0), .int .i64 (.ofNat 0), .int .i64 (.ofNat 0)], 51, 0, none⟩),
  (5, ⟨[.snil, .slice 0 0 1 (.fix 1), .snil, .snil, .slice 19 0 3 (.opn 0), .int .i64 (.ofNat 0)], 44, 0, none⟩),
  (7, ⟨[.int .i64 (.ofNat 1), .int .i64 (.ofNat 0), .int .i64 (.ofNat 0), .int .i64 (.ofNat 0), .int .i64 (.ofNat 7), .snil, .int .i64 (.ofNat 12), .int .i64 (.ofNat 0), .int .i64 (.ofNat 0), .int .i64 (.ofNat 0), .int .i64 (.ofNat 1), .snil], 53, 6, none⟩),
  (8, ⟨[.int .i64 (.ofNat 0), .int .i64 (.ofNat 0)], 36, 0, none⟩),
  (10, ⟨[.slice 14 0 2 (.opn 0), .int .i64 (.ofNat 3), .int .i64 (.ofNat 0), .int .i64 (.ofNat 0), .int .i64 (.ofNat 0)], 51, 0, none⟩),
  (14, ⟨[.int .i64 (.ofNat 1), .int .i64 (.ofNat 0), .int .i64 (.ofNat 0), .int .i64 (.ofNat 0), .int .i64 (.ofNat 0), .snil, .int .i64 (.ofNat 12), .int .i64 (.ofNat 0), .int .i64 (.ofNat 0), .int .i64 (.ofNat 0), .int .i64 (.ofNat 2), .snil], 53, 6, none⟩),
  (15, ⟨[.int .i64 (.ofNat 0), .int .i64 (.ofNat 0)], 36, 0, none⟩),
  (17, ⟨[.slice 21 0 2 (.opn 0), .int .i64 (.ofNat 3), .int .i64 (.ofNat 0), .int .i64 (.ofNat 0), .int .i64 (.ofNat 0)], 51, 0, none⟩),
  (19, ⟨[.int .i64 (.ofNat 0), .slice 1 0 1 (.fix 1), .slice 3 0 1 (.fix 1), .int .i64 (.ofNat 0), .slice 8 0 1 (.fix 1), .slice 10 0 1 (.fix 1), .int .i64 (.ofNat 0), .slice 15 0 1 (.fix 1), .slice 17 0 1 (.fix 1)], 48, 3, none⟩),
  (21, ⟨[.int .i64 (.ofNat 1), .int .i64 (.ofNat 0), .int .i64 (.ofNat 0), .int .i64 (.ofNat 0), .int .i64 (.ofNat 0), .snil, .int .i64 (.ofNat 12), .int .i64 (.ofNat 0), .int .i64 (.ofNat 0), .int .i64 (.ofNat 0), .int .i64 (.ofNat 1), .snil], 53, 6, none⟩)]
noncomputable def CallsChain_2t_s3 : RE := ⟨15, [.v (.c (.ptr 5 0)), .v (.c (.snil))], 22, .v (.c (.ptr 134 0)), [(22, ⟨[.slice 48 0 3 (.opn 0), .slice 52 0 3 (.opn 0), .snil, .snil, .snil, .int .i64 (.ofNat 6)], 173, 0, none⟩),
  (26, ⟨[.int .i64 (.ofNat 0)], 3, 1, none⟩),
  (36, ⟨[.int .i64 (.ofNat 2)], 3, 1, none⟩),
  (46, ⟨[.int .i64 (.ofNat 4)], 3, 1, none⟩),
  (48, ⟨[.slice 26 0 1 (.opn 0), .slice 36 0 1 (.opn 0), .slice 46 0 1 (.opn 0)], 25, 1, none⟩),
  (52, ⟨[.int .i64 (.ofNat 1), .int .i64 (.ofNat 3), .int .i64 (.ofNat 5)], 3, 1, none⟩),
  (116, ⟨[.slice 128 0 6 (.opn 0)], 175, 0, none⟩),
  (128, ⟨[.int .i64 (.ofNat 0), .int .i64 (.ofNat 1), .int .i64 (.ofNat 2), .int .i64 (.ofNat 3), .int .i64 (.ofNat 4), .int .i64 (.ofNat 5)], 3, 1, none⟩),
  (129, ⟨[.snil, .snil, .snil, .snil, .snil, .snil], 179, 0, none⟩),
  (130, ⟨[.slice 190 0 1 (.opn 0)], 100, 0, none⟩),
  (131, ⟨[], 0, 0, some (.map [(0, .agg [.int .i64 (.ofNat 1), .int .i64 (.ofNat 1)], .c (.bool true)), (1, .agg [.int .i64 (.ofNat 4), .int .i64 (.ofNat 2)], .c (.bool true)), (2, .agg [.int .i64 (.ofNat 7), .int .i64 (.ofNat 1)], .c (.bool true))] 3)⟩),
  (132, ⟨[], 0, 0, some (.map [] 0)⟩),
  (133, ⟨[.snil, .snil, .map 132, .int .i64 (.ofNat 0)], 178, 0, none⟩),
  (134, ⟨[.ptr 5 0, .ptr 22 0, .ptr 116 0, .slice 182 0 6 (.opn 0), .slice 185 0 6 (.opn 0), .slice 188 0 6 (.opn 0), .slice 129 0 6 (.fix 6), .ptr 130 0, .map 131, .ptr 133 0], 106, 0, none⟩),
  (135, ⟨[.snil], 100, 0, none⟩),
  (138, ⟨[.snil], 100, 0, none⟩),
  (141, ⟨[.snil], 100, 0, none⟩),
  (144, ⟨[.snil], 100, 0, none⟩),
  (147, ⟨[.snil], 100, 0, none⟩),
  (150, ⟨[.snil], 100, 0, none⟩),
  (153, ⟨[.snil], 100, 0, none⟩),
  (156, ⟨[.snil], 100, 0, none⟩),
  (159, ⟨[.snil], 100, 0, none⟩),
  (162, ⟨[.snil], 100, 0, none⟩),
  (165, ⟨[.snil], 100, 0, none⟩),
  (168, ⟨[.snil], 100, 0, none⟩),
  (171, ⟨[.snil], 100, 0, none⟩),
  (174, ⟨[.snil], 100, 0, none⟩),
  (177, ⟨[.snil], 100, 0, none⟩),
  (180, ⟨[.snil], 100, 0, none⟩),
  (182, ⟨[.ptr 135 0, .ptr 144 0, .ptr 153 0, .ptr 162 0, .ptr 171 0, .ptr 180 0], 97, 1, none⟩),
  (183, ⟨[.snil], 100, 0, none⟩),
  (185, ⟨[.ptr 138 0, .ptr 147 0, .ptr 156 0, .ptr 165 0, .ptr 174 0, .ptr 183 0], 97, 1, none⟩),
  (186, ⟨[.snil], 100, 0, none⟩),
  (188, ⟨[.ptr 141 0, .ptr 150 0, .ptr 159 0, .ptr 168 0, .ptr 177 0, .ptr 186 0], 97, 1, none⟩),
  (190, ⟨[.int .u64 (.ofNat 7)], 192, 1, none⟩)], 1124⟩
theorem CallsChain_2t_s3_ok : CallsChain_2t_h4.rep CallsChain_2t_s3_b CallsChain_2t_s3 = true := by kernel_rfl
noncomputable def CallsChain_2t_h5 : HK := CallsChain_2t_h4.repl CallsChain_2t_s3_b CallsChain_2t_s3 CallsChain_2t_s3_ok
theorem CallsChain_2t_run : isBool true (runW CallsChain_2t_h5.K 10 [ai (Int.ofNat 2), ab true] s0) = true := by kernel_rfl
theorem CallsChain_2t_law {args : Array Value} (ha : VAs (fun _ => none) [ai (Int.ofNat 2), ab true] args.toList) (w : World) (hT : Tab w) :
    Calls Tryz.prog 10 args w fun e w' => Below w.heap.size w w' ∧ e = .returned (.bool true) := CallsChain_2t_h5.law CallsChain_2t_run ha w hT
noncomputable def CallsChain_2f_m0 : MM := ⟨[100], [(0, ⟨[.snil, .int .i64 (.ofNat 0), .int .i64 (.ofNat 0)], 63, 0, none⟩),
  (1, ⟨[.int .i64 (.ofNat 0), .int .i64 (.ofNat 0)], 36, 0, none⟩),
  (3, ⟨[.slice 7 0 2 (.opn 0), .int .i64 (.ofNat 3), .int .i64 (.ofNat 0), .int .i64 (.ofNat 0), .int .i64 (.ofNat 0)], 51, 0, none⟩),
  (5, ⟨[.snil, .slice 0 0 1 (.fix 1), .snil, .snil, .slice 19 0 3 (.opn 0), .int .i64 (.ofNat 0)], 44, 0, none⟩),
  (7, ⟨[.int .i64 (.ofNat 1), .int .i64 (.ofNat 0), .int .i64 (.ofNat 0), .int .i64 (.ofNat 0), .int .i64 (.ofNat 7), .snil, .int .i64 (.ofNat 12), .int .i64 (.ofNat 0), .int .i64 (.ofNat 0), .int .i64 (.ofNat 0), .int .i64 (.ofNat 1), .snil], 53, 6, none⟩),
  (8, ⟨[.int .i64 (.ofNat 0), .int .i64 (.ofNat 0)], 36, 0, none⟩),
  (10, ⟨[.slice 14 0 2 (.opn 0), .int .i64 (.ofNat 3), .int .i64 (.ofNat 0), .int .i64 (.ofNat 0), .int .i64 (.ofNat 0)], 51, 0, none⟩),
  (14, ⟨[.int .i64 (.ofNat 1), .int .i64 (.ofNat 0), .int .i64 (.ofNat 0), .int .i64 (.ofNat 0), .int .i64 (.ofNat 0), .snil, .int .i64 (.ofNat 12), .int .i64 (.ofNat 0), .int .i64 (.ofNat 0), .int .i64 (.ofNat 0), .int .i64 (.ofNat 2), .snil], 53, 6, none⟩),
  (15, ⟨[.int .i64 (.ofNat 0), .int .i64 (.ofNat 0)], 36, 0, none⟩),
  (16, ⟨[.int .i64 (.ofNat 1), .int .i64 (.ofNat 0), .int .i64 (.ofNat 0), .int .i64 (.ofNat 0), .int .i64 (.ofNat 0), .snil], 53, 0, none⟩),
  (17, ⟨[.slice 16 0 1 (.fix 1), .int .i64 (.ofNat 3), .int .i64 (.ofNat 0), .int .i64 (.ofNat 0), .int .i64 (.ofNat 0)], 51, 0, none⟩),
  (19, ⟨[.int .i64 (.ofNat 0), .slice 1 0 1 (.fix 1), .slice 3 0 1 (.fix 1), .int .i64 (.ofNat 0), .slice 8 0 1 (.fix 1), .slice 10 0 1 (.fix 1), .int .i64 (.ofNat 0), .slice 15 0 1 (.fix 1), .slice 17 0 1 (.fix 1)], 48, 3, none⟩)], 20, [⟨100, 0, [.v (.c (.ptr 5 0))], .v (.c (.nili))⟩]⟩
theorem CallsChain_2f_m0_ok : H0.tbl CallsChain_2f_m0 = true := by kernel_rfl
noncomputable def CallsChain_2f_h1 : HK := H0.memo CallsChain_2f_m0 CallsChain_2f_m0_ok
noncomputable def CallsChain_2f_m1 : MM := ⟨[71], [(3, ⟨[.slice 7 0 2 (.opn 0), .int .i64 (.ofNat 3), .int .i64 (.ofNat 0), .int .i64 (.ofNat 0), .int .i64 (.ofNat 0)], 51, 0, none⟩),
  (5, ⟨[.snil, .slice 0 0 1 (.fix 1), .snil, .snil, .slice 19 0 3 (.opn 0), .int .i64 (.ofNat 0)], 44, 0, none⟩),
  (10, ⟨[.slice 14 0 2 (.opn 0), .int .i64 (.ofNat 3), .int .i64 (.ofNat 0), .int .i64 (.ofNat 0), .int .i64 (.ofNat 0)], 51, 0, none⟩),
  (17, ⟨[.slice 16 0 1 (.fix 1), .int .i64 (.ofNat 3), .int .i64 (.ofNat 0), .int .i64 (.ofNat 0), .int .i64 (.ofNat 0)], 51, 0, none⟩),
  (19, ⟨[.int .i64 (.ofNat 0), .slice 1 0 1 (.fix 1), .slice 3 0 1 (.fix 1), .int .i64 (.ofNat 0), .slice 8 0 1 (.fix 1), .slice 10 0 1 (.fix 1), .int .i64 (.ofNat 0), .slice 15 0 1 (.fix 1), .slice 17 0 1 (.fix 1)], 48, 3, none⟩)], 69, [⟨71, 0, [.v (.c (.ptr 5 0)), .v (.c (.int .i64 (.ofNat 0)))], .tup [.agg [.int .i64 (.ofNat 0), .int .i64 (.ofNat 0), .int .i64 (.ofNat 0)], .c (.bool true)]⟩,
  ⟨71, 1, [.v (.c (.ptr 5 0)), .v (.c (.int .i64 (.ofNat 1)))], .tup [.agg [.int .i64 (.ofNat 0), .int .i64 (.ofNat 0), .int .i64 (.ofNat 1)], .c (.bool true)]⟩,
  ⟨71, 2, [.v (.c (.ptr 5 0)), .v (.c (.int .i64 (.ofNat 2)))], .tup [.agg [.int .i64 (.ofNat 0), .int .i64 (.ofNat 0), .int .i64 (.ofNat 2)], .c (.bool true)]⟩,
  ⟨71, 3, [.v (.c (.ptr 5 0)), .v (.c (.int .i64 (.ofNat 3)))], .tup [.agg [.int .i64 (.ofNat 1), .int .i64 (.ofNat 0), .int .i64 (.ofNat 0)], .c (.bool true)]⟩,
  ⟨71, 4, [.v (.c (.ptr 5 0)), .v (.c (.int .i64 (.ofNat 4)))], .tup [.agg [.int .i64 (.ofNat 1), .int .i64 (.ofNat 0), .int .i64 (.ofNat 1)], .c (.bool true)]⟩,
  ⟨71, 5, [.v (.c (.ptr 5 0)), .v (.c (.int .i64 (.ofNat 5)))], .tup [.agg [.int .i64 (.ofNat 1), .int .i64 (.ofNat 0), .int .i64 (.ofNat 2)], .c (.bool true)]⟩,
  ⟨71, 6, [.v (.c (.ptr 5 0)), .v (.c (.int .i64 (.ofNat 6)))], .tup [.agg [.int .i64 (.ofNat 2), .int .i64 (.ofNat 0), .int .i64 (.ofNat 0)], .c (.bool true)]⟩,
  ⟨71, 7, [.v (.c (.ptr 5 0)), .v (.c (.int .i64 (.ofNat 7)))], .tup [.agg [.int .i64 (.ofNat 2), .int .i64 (.ofNat 0), .int .i64 (.ofNat 1)], .c (.bool true)]⟩]⟩
theorem CallsChain_2f_m1_ok : CallsChain_2f_h1.tbl CallsChain_2f_m1 = true := by kernel_rfl
noncomputable def CallsChain_2f_h2 : HK := CallsChain_2f_h1.memo CallsChain_2f_m1 CallsChain_2f_m1_ok
noncomputable def CallsChain_2f_s1_b : Bls := [(0, ⟨[.snil, .int .i64 (.ofNat 0), .int .i64 (.ofNat 0)], 63, 0, none⟩),
  (1, ⟨[.int .i64 (.ofNat 0), .int .i64 (.ofNat 0)], 36, 0, none⟩),
  (3, ⟨[.slice 7 0 2 (.opn 0), .int .i64 (.ofNat 3), .int .i64 (.ofNat 0), .int .i64 (.ofNat 0), .int .i64 (.ofNat 0)], 51, 0, none⟩),
  (5, ⟨[.snil, .slice 0 0 1 (.fix 1), .snil, .snil, .slice 19 0 3 (.opn 0), .int .i64 (.ofNat 0)], 44, 0, none⟩),
  (7, ⟨[.int .i64 (.ofNat 1), .int .i64 (.ofNat 0), .int .i64 (.ofNat 0), .int .i64 (.ofNat 0), .int .i64 (.ofNat 7), .snil, .int .i64 (.ofNat 12), .int .i64 (.ofNat 0), .int .i64 (.ofNat 0), .int .i64 (.ofNat 0), .int .i64 (.ofNat 1), .snil], 53, 6, none⟩),
  (8, ⟨[.int .i64 (.ofNat 0), .int .i64 (.ofNat 0)], 36, 0, none⟩),
  (10, ⟨[.slice 14 0 2 (.opn 0), .int .i64 (.ofNat 3), .int .i64 (.ofNat 0), .int .i64 (.ofNat 0), .int .i64 (.ofNat 0)], 51, 0, none⟩),
  (14, ⟨[.int .i64 (.ofNat 1), .int .i64 (.ofNat 0), .int .i64 (.ofNat 0), .int .i64 (.ofNat 0), .int .i64 (.ofNat 0), .snil, .int .i64 (.ofNat 12), .int .i64 (.ofNat 0), .int .i64 (.ofNat 0), .int .i64 (.ofNat 0), .int .i64 (.ofNat 2), .snil], 53, 6, none⟩),
  (15, ⟨[.int .i64 (.ofNat 0), .int .i64 (.ofNat 0)], 36, 0, none⟩),
  (16, ⟨[.int .i64 (.ofNat 1), .int .i64 (.ofNat 0), .int .i64 (.ofNat 0), .int .i64 (.ofNat 0), .int .i64 (.ofNat 0), .snil], 53, 0, none⟩),
  (17, ⟨[.slice 16 0 1 (.fix 1), .int .i64 (.ofNat 3), .int .i64 (.ofNat 0), .int .i64 (.ofNat 0), .int .i64 (.ofNat 0)], 51, 0, none⟩),
  (19, ⟨[.int .i64 (.ofNat 0), .slice 1 0 1 (.fix 1), .slice 3 0 1 (.fix 1), .int .i64 (.ofNat 0), .slice 8 0 1 (.fix 1), .slice 10 0 1 (.fix 1), .int .i64 (.ofNat 0), .slice 15 0 1 (.fix 1), .slice 17 0 1 (.fix 1)], 48, 3, none⟩)]
noncomputable def CallsChain_2f_s1 : RE := ⟨56, [.v (.c (.ptr 5 0))], 20, .v (.c (.ptr 20 0)), [(20, ⟨[.slice 46 0 3 (.opn 0), .slice 50 0 3 (.opn 0), .snil, .snil, .snil, .int .i64 (.ofNat 6)], 173, 0, none⟩),
  (24, ⟨[.int .i64 (.ofNat 0)], 3, 1, none⟩),
  (34, ⟨[.int .i64 (.ofNat 2)], 3, 1, none⟩),
  (44, ⟨[.int .i64 (.ofNat 4)], 3, 1, none⟩),
  (46, ⟨[.slice 24 0 1 (.opn 0), .slice 34 0 1 (.opn 0), .slice 44 0 1 (.opn 0)], 25, 1, none⟩),
  (50, ⟨[.int .i64 (.ofNat 1), .int .i64 (.ofNat 3), .int .i64 (.ofNat 5)], 3, 1, none⟩)], 107⟩
theorem CallsChain_2f_s1_ok : CallsChain_2f_h2.srp CallsChain_2f_s1_b CallsChain_2f_s1 = true := by kernel_rfl
noncomputable def CallsChain_2f_h3 : HK := CallsChain_2f_h2.srep CallsChain_2f_s1_b CallsChain_2f_s1 CallsChain_2f_s1_ok
noncomputable def CallsChain_2f_s2_b : Bls := [(0, ⟨[.snil, .int .i64 (.ofNat 0), .int .i64 (.ofNat 0)], 63, 0, none⟩),
  (1, ⟨[.int .i64 (.ofNat 0), .int .i64 (.ofNat 0)], 36, 0, none⟩),
  (3, ⟨[.slice 7 0 2 (.opn 0), .int .i64 (.ofNat 3), .int .i64 (.ofNat 0), .int .i64 (.ofNat 0), .int .i64 (.ofNat 0)], 51, 0, none⟩),
  (5, ⟨[.snil, .slice 0 0 1 (.fix 1), .snil, .snil, .slice 19 0 3 (.opn 0), .int .i64 (.ofNat 0)], 44, 0, none⟩),
  (7, ⟨[.int .i64 (.ofNat 1), .int .i64 (.ofNat 0), .int .i64 (.ofNat 0), .int .i64 (.ofNat 0), .int .i64 (.ofNat 7), .snil, .int .i64 (.ofNat 12), .int .i64 (.ofNat 0), .int .i64 (.ofNat 0), .int .i64 (.ofNat 0), .int .i64 (.ofNat 1), .snil], 53, 6, none⟩),
  (8, ⟨[.int .i64 (.ofNat 0), .int .i64 (.ofNat 0)], 36, 0, none⟩),
  (10, ⟨[.slice 14 0 2 (.opn 0), .int .i64 (.ofNat 3), .int .i64 (.ofNat 0), .int .i64 (.ofNat 0), .int .i64 (.ofNat 0)], 51, 0, none⟩),
  (14, ⟨[.int .i64 (.ofNat 1), .int .i64 (.ofNat 0), .int .i64 (.ofNat 0), .int .i64 (.ofNat 0), .int .i64 (.ofNat 0), .snil, .int .i64 (.ofNat 12), .int .i64 (.ofNat 0), .int .i64 (.ofNat 0), .int .i64 (.ofNat 0), .int .i64 (.ofNat 2), .snil], 53, 6, none⟩),
  (15, ⟨[.int .i64 (.ofNat 0), .int .i64 (.ofNat 0)], 36, 0, none⟩),
  (16, ⟨[.int .i64 (.ofNat 1), .int .i64 (.ofNat 0), .int .i64 (.ofNat 0), .int .i64 (.ofNat 0), .int .i64 (.ofNat 0), .snil], 53, 0, none⟩),
  (17, ⟨[.slice 16 0 1 (.fix 1), .int .i64 (.ofNat 3), .int .i64 (.ofNat 0), .int .i64 (.ofNat 0), .int .i64 (.ofNat 0)], 51, 0, none⟩),
  (19, ⟨[.int .i64 (.ofNat 0), .slice 1 0 1 (.fix 1), .slice 3 0 1 (.fix 1), .int .i64 (.ofNat 0), .slice 8 0 1 (.fix 1), .slice 10 0 1 (.fix 1), .int .i64 (.ofNat 0), .slice 15 0 1 (.fix 1), .slice 17 0 1 (.fix 1)], 48, 3, none⟩)]
noncomputable def CallsChain_2f_s2 : RE := ⟨79, [.v (.c (.ptr 5 0))], 270, .v (.c (.slice 285 0 8 (.opn 0))), [(285, ⟨[.int .i64 (.ofNat 0), .int .i64 (.ofNat 0), .int .i64 (.ofNat 0), .int .i64 (.ofNat 0), .int .i64 (.ofNat 0), .int .i64 (.ofNat 1), .int .i64 (.ofNat 0), .int .i64 (.ofNat 0), .int .i64 (.ofNat 2), .int .i64 (.ofNat 1), .int .i64 (.ofNat 0), .int .i64 (.ofNat 0), .int .i64 (.ofNat 1), .int .i64 (.ofNat 0), .int .i64 (.ofNat 1), .int .i64 (.ofNat 1), .int .i64 (.ofNat 0), .int .i64 (.ofNat 2), .int .i64 (.ofNat 2), .int .i64 (.ofNat 0), .int .i64 (.ofNat 0), .int .i64 (.ofNat 2), .int .i64 (.ofNat 0), .int .i64 (.ofNat 1)], 117, 3, none⟩)], 286⟩
theorem CallsChain_2f_s2_ok : CallsChain_2f_h3.srp CallsChain_2f_s2_b CallsChain_2f_s2 = true := by kernel_rfl
noncomputable def CallsChain_2f_h4 : HK := CallsChain_2f_h3.srep CallsChain_2f_s2_b CallsChain_2f_s2 CallsChain_2f_s2_ok
noncomputable def CallsChain_2f_s3_b : Bls := [(0, ⟨[.snil, .int .i64 (.ofNat 0), .int .i64 (.ofNat 0)], 63, 0, none⟩),
  (1, ⟨[.int .i64 (.ofNat 0), .int .i64 (.ofNat 0)], 36, 0, none⟩),
  (3, ⟨[.slice 7 0 2 (.opn 0), .int .i64 (.ofNat 3), .int .i64 (.ofNat 0), .int .i64 (.ofNat 0), .int .i64 (.ofNat 0)], 51, 0, none⟩),
  (5, ⟨[.snil, .slice 0 0 1 (.fix 1), .snil, .snil, .slice 19 0 3 (.opn 0), .int .i64 (.ofNat 0)], 44, 0, none⟩),
  (7, ⟨[.int .i64 (.ofNat 1), .int .i64 (.ofNat 0), .int .i64 (.ofNat 0), .int .i64 (.ofNat 0), .int .i64 (.ofNat 7), .snil, .int .i64 (.ofNat 12), .int .i64 (.ofNat 0), .int .i64 (.ofNat 0), .int .i64 (.ofNat 0), .int .i64 (.ofNat 1), .snil], 53, 6, none⟩),
  (8, ⟨[.int .i64 (.ofNat 0), .int .i64 (.ofNat 0)], 36, 0, none⟩),
  (10, ⟨[.slice 14 0 2 (.opn 0), .int .i64 (.ofNat 3), .int .i64 (.ofNat 0), .int .i64 (.ofNat 0), .int .i64 (.ofNat 0)], 51, 0, none⟩),
  (14, ⟨[.int .i64 (.ofNat 1), .int .i64 (.ofNat 0), .int .i64 (.ofNat 0), .int .i64 (.ofNat 0), .int .i64 (.ofNat 0), .snil, .int .i64 (.ofNat 12), .int .i64 (.ofNat 0), .int .i64 (.ofNat 0), .int .i64 (.ofNat 0), .int .i64 (.ofNat 2), .snil], 53, 6, none⟩),
  (15, ⟨[.int .i64 (.ofNat 0), .int .i64 (.ofNat 0)], 36, 0, none⟩),
  (16, ⟨[.int .i64 (.ofNat 1), .int .i64 (.ofNat 0), .int .i64 (.ofNat 0), .int .i64 (.ofNat 0), .int .i64 (.ofNat 0), .snil], 53, 0, none⟩),
  (17, ⟨[.slice 16 0 1 (.fix 1), .int .i64 (.ofNat 3), .int .i64 (.ofNat 0), .int .i64 (.ofNat 0), .int .i64 (.ofNat 0)], 51, 0, none⟩),
  (19, ⟨[.int .i64 (.ofNat 0), .slice 1 0 1 (.fix 1), .slice 3 0 1 (.fix 1), .int .i64 (.ofNat 0), .slice 8 0 1 (.fix 1), .slice 10 0 1 (.fix 1), .int .i64 (.ofNat 0), .slice 15 0 1 (.fix 1), .slice 17 0 1 (.fix 1)], 48, 3, none⟩)]
noncomputable def CallsChain_2f_s3 : RE := ⟨15, [.v (.c (.ptr 5 0)), .v (.c (.snil))], 20, .v (.c (.ptr 125 0)), [(20, ⟨[.slice 46 0 3 (.opn 0), .slice 50 0 3 (.opn 0), .snil, .snil, .snil, .int .i64 (.ofNat 6)], 173, 0, none⟩),
  (24, ⟨[.int .i64 (.ofNat 0)], 3, 1, none⟩),
  (34, ⟨[.int .i64 (.ofNat 2)], 3, 1, none⟩),
  (44, ⟨[.int .i64 (.ofNat 4)], 3, 1, none⟩),
  (46, ⟨[.slice 24 0 1 (.opn 0), .slice 34 0 1 (.opn 0), .slice 44 0 1 (.opn 0)], 25, 1, none⟩),
  (50, ⟨[.int .i64 (.ofNat 1), .int .i64 (.ofNat 3), .int .i64 (.ofNat 5)], 3, 1, none⟩),
  (107, ⟨[.slice 119 0 6 (.opn 0)], 175, 0, none⟩),
  (119, ⟨[.int .i64 (.ofNat 0), .int .i64 (.ofNat 1), .int .i64 (.ofNat 2), .int .i64 (.ofNat 3), .int .i64 (.ofNat 4), .int .i64 (.ofNat 5)], 3, 1, none⟩),
  (120, ⟨[.snil, .snil, .snil, .snil, .snil, .snil], 179, 0, none⟩),
  (121, ⟨[.slice 181 0 1 (.opn 0)], 100, 0, none⟩),
  (122, ⟨[], 0, 0, some (.map [(0, .agg [.int .i64 (.ofNat 1), .int .i64 (.ofNat 1)], .c (.bool true)), (1, .agg [.int .i64 (.ofNat 4), .int .i64 (.ofNat 2)], .c (.bool true))] 2)⟩),
  (123, ⟨[], 0, 0, some (.map [] 0)⟩),
  (124, ⟨[.snil, .snil, .map 123, .int .i64 (.ofNat 0)], 178, 0, none⟩),
  (125, ⟨[.ptr 5 0, .ptr 20 0, .ptr 107 0, .slice 173 0 6 (.opn 0), .slice 176 0 6 (.opn 0), .slice 179 0 6 (.opn 0), .slice 120 0 6 (.fix 6), .ptr 121 0, .map 122, .ptr 124 0], 106, 0, none⟩),
  (126, ⟨[.snil], 100, 0, none⟩),
  (129, ⟨[.snil], 100, 0, none⟩),
  (132, ⟨[.snil], 100, 0, none⟩),
  (135, ⟨[.snil], 100, 0, none⟩),
  (138, ⟨[.snil], 100, 0, none⟩),
  (141, ⟨[.snil], 100, 0, none⟩),
  (144, ⟨[.snil], 100, 0, none⟩),
  (147, ⟨[.snil], 100, 0, none⟩),
  (150, ⟨[.snil], 100, 0, none⟩),
  (153, ⟨[.snil], 100, 0, none⟩),
  (156, ⟨[.snil], 100, 0, none⟩),
  (159, ⟨[.snil], 100, 0, none⟩),
  (162, ⟨[.snil], 100, 0, none⟩),
  (165, ⟨[.snil], 100, 0, none⟩),
  (168, ⟨[.snil], 100, 0, none⟩),
  (171, ⟨[.snil], 100, 0, none⟩),
  (173, ⟨[.ptr 126 0, .ptr 135 0, .ptr 144 0, .ptr 153 0, .ptr 162 0, .ptr 171 0], 97, 1, none⟩),
  (174, ⟨[.snil], 100, 0, none⟩),
  (176, ⟨[.ptr 129 0, .ptr 138 0, .ptr 147 0, .ptr 156 0, .ptr 165 0, .ptr 174 0], 97, 1, none⟩),
  (177, ⟨[.snil], 100, 0, none⟩),
  (179, ⟨[.ptr 132 0, .ptr 141 0, .ptr 150 0, .ptr 159 0, .ptr 168 0, .ptr 177 0], 97, 1, none⟩),
  (181, ⟨[.int .u64 (.ofNat 7)], 192, 1, none⟩)], 938⟩
theorem CallsChain_2f_s3_ok : CallsChain_2f_h4.rep CallsChain_2f_s3_b CallsChain_2f_s3 = true := by kernel_rfl
noncomputable def CallsChain_2f_h5 : HK := CallsChain_2f_h4.repl CallsChain_2f_s3_b CallsChain_2f_s3 CallsChain_2f_s3_ok
theorem CallsChain_2f_run : isBool true (runW CallsChain_2f_h5.K 10 [ai (Int.ofNat 2), ab false] s0) = true := by kernel_rfl
theorem CallsChain_2f_law {args : Array Value} (ha : VAs (fun _ => none) [ai (Int.ofNat 2), ab false] args.toList) (w : World) (hT : Tab w) :
    Calls Tryz.prog 10 args w fun e w' => Below w.heap.size w w' ∧ e = .returned (.bool true) := CallsChain_2f_h5.law CallsChain_2f_run ha w hT
end Go.Proofs.YtjjfahgdmaikpaaGreatDoor
