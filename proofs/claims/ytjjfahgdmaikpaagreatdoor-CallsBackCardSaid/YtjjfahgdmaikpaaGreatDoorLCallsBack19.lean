/- Tables of calls, and a run that uses them. -/
import Derived.Test.YtjjfahgdmaikpaaGreatDoorLm19
namespace Go.Proofs.YtjjfahgdmaikpaaGreatDoor
open Go Go.RowKit Ev
set_option maxRecDepth 100000
set_option linter.unusedVariables false
noncomputable def CallsBack_19_m0 : MM := ⟨[100], [(0, ⟨[.snil, .int .i64 (.ofNat 0), .int .i64 (.ofNat 0)], 63, 0, none⟩),
  (1, ⟨[.int .i64 (.ofNat 0), .int .i64 (.ofNat 0)], 36, 0, none⟩),
  (3, ⟨[.slice 49 0 20 (.opn 0), .int .i64 (.ofNat 3), .int .i64 (.ofNat 0), .int .i64 (.ofNat 0), .int .i64 (.ofNat 0)], 51, 0, none⟩),
  (5, ⟨[.snil, .slice 0 0 1 (.fix 1), .snil, .snil, .slice 12 0 2 (.opn 0), .int .i64 (.ofNat 0)], 44, 0, none⟩),
  (8, ⟨[.int .i64 (.ofNat 0), .int .i64 (.ofNat 0)], 36, 0, none⟩),
  (9, ⟨[.int .i64 (.ofNat 1), .int .i64 (.ofNat 0), .int .i64 (.ofNat 0), .int .i64 (.ofNat 0), .int .i64 (.ofNat 0), .snil], 53, 0, none⟩),
  (10, ⟨[.slice 9 0 1 (.fix 1), .int .i64 (.ofNat 3), .int .i64 (.ofNat 0), .int .i64 (.ofNat 0), .int .i64 (.ofNat 0)], 51, 0, none⟩),
  (12, ⟨[.int .i64 (.ofNat 0), .slice 1 0 1 (.fix 1), .slice 3 0 1 (.fix 1), .int .i64 (.ofNat 0), .slice 8 0 1 (.fix 1), .slice 10 0 1 (.fix 1)], 48, 3, none⟩),
  (49, ⟨[.int .i64 (.ofNat 1), .int .i64 (.ofNat 0), .int .i64 (.ofNat 0), .int .i64 (.ofNat 0), .int .i64 (.ofNat 7), .snil, .int .i64 (.ofNat 12), .int .i64 (.ofNat 0), .int .i64 (.ofNat 0), .int .i64 (.ofNat 0), .int .i64 (.ofNat 1), .snil, .int .i64 (.ofNat 12), .int .i64 (.ofNat 0), .int .i64 (.ofNat 0), .int .i64 (.ofNat 0), .int .i64 (.ofNat 1), .snil, .int .i64 (.ofNat 12), .int .i64 (.ofNat 0), .int .i64 (.ofNat 0), .int .i64 (.ofNat 0), .int .i64 (.ofNat 1), .snil, .int .i64 (.ofNat 12), .int .i64 (.ofNat 0), .int .i64 (.ofNat 0), .int .i64 (.ofNat 0), .int .i64 (.ofNat 1), .snil, .int .i64 (.ofNat 12), .int .i64 (.ofNat 0), .int .i64 (.ofNat 0), .int .i64 (.ofNat 0), .int .i64 (.ofNat 1), .snil, .int .i64 (.ofNat 12), .int .i64 (.ofNat 0), .int .i64 (.ofNat 0), .int .i64 (.ofNat 0), .int .i64 (.ofNat 1), .snil, .int .i64 (.ofNat 12), .int .i64 (.ofNat 0), .int .i64 (.ofNat 0), .int .i64 (.ofNat 0), .int .i64 (.ofNat 1), .snil, .int .i64 (.ofNat 12), .int .i64 (.ofNat 0), .int .i64 (.ofNat 0), .int .i64 (.ofNat 0), .int .i64 (.ofNat 1), .snil, .int .i64 (.ofNat 12), .int .i64 (.ofNat 0), .int .i64 (.ofNat 0), .int .i64 (.ofNat 0), .int .i64 (.ofNat 1), .snil, .int .i64 (.ofNat 12), .int .i64 (.ofNat 0), .int .i64 (.ofNat 0), .int .i64 (.ofNat 0), .int .i64 (.ofNat 1), .snil, .int .i64 (.ofNat 12), .int .i64 (.ofNat 0), .int .i64 (.ofNat 0), .int .i64 (.ofNat 0), .int .i64 (.ofNat 1), .snil, .int .i64 (.ofNat 12), .int .i64 (.ofNat 0), .int .i64 (.ofNat 0), .int .i64 (.ofNat 0), .int .i64 (.ofNat 1), .snil, .int .i64 (.ofNat 12), .int .i64 (.ofNat 0), .int .i64 (.ofNat 0), .int .i64 (.ofNat 0), .int .i64 (.ofNat 1), .snil, .int .i64 (.ofNat 12), .int .i64 (.ofNat 0), .int .i64 (.ofNat 0), .int .i64 (.ofNat 0), .int .i64 (.ofNat 1), .snil, .int .i64 (.ofNat 12), .int .i64 (.ofNat 0), .int .i64 (.ofNat 0), .int .i64 (.ofNat 0), .int .i64 (.ofNat 1), .snil, .int .i64 (.ofNat 12), .int .i64 (.ofNat 0), .int .i64 (.ofNat 0), .int .i64 (.ofNat 0), .int .i64 (.ofNat 1), .snil, .int .i64 (.ofNat 12), .int .i64 (.ofNat 0), .int .i64 (.ofNat 0), .int .i64 (.ofNat 0), .int .i64 (.ofNat 1), .snil, .int .i64 (.ofNat 12), .int .i64 (.ofNat 0), .int .i64 (.ofNat 0), .int .i64 (.ofNat 0), .int .i64 (.ofNat 1), .snil, .int .i64 (.ofNat 12), .int .i64 (.ofNat 0), .int .i64 (.ofNat 0), .int .i64 (.ofNat 0), .int .i64 (.ofNat 1), .snil], 53, 6, none⟩)], 50, [⟨100, 0, [.v (.c (.ptr 5 0))], .v (.c (.nili))⟩]⟩
theorem CallsBack_19_m0_ok : tblK (fun f l s => runW hkT f l s) CallsBack_19_m0.bl CallsBack_19_m0.nb CallsBack_19_m0.t = true := by kernel_rfl
noncomputable def CallsBack_19_m1 : MM := ⟨[71], [(3, ⟨[.slice 49 0 20 (.opn 0), .int .i64 (.ofNat 3), .int .i64 (.ofNat 0), .int .i64 (.ofNat 0), .int .i64 (.ofNat 0)], 51, 0, none⟩),
  (5, ⟨[.snil, .slice 0 0 1 (.fix 1), .snil, .snil, .slice 12 0 2 (.opn 0), .int .i64 (.ofNat 0)], 44, 0, none⟩),
  (10, ⟨[.slice 9 0 1 (.fix 1), .int .i64 (.ofNat 3), .int .i64 (.ofNat 0), .int .i64 (.ofNat 0), .int .i64 (.ofNat 0)], 51, 0, none⟩),
  (12, ⟨[.int .i64 (.ofNat 0), .slice 1 0 1 (.fix 1), .slice 3 0 1 (.fix 1), .int .i64 (.ofNat 0), .slice 8 0 1 (.fix 1), .slice 10 0 1 (.fix 1)], 48, 3, none⟩)], 119, [⟨71, 0, [.v (.c (.ptr 5 0)), .v (.c (.int .i64 (.ofNat 0)))], .tup [.agg [.int .i64 (.ofNat 0), .int .i64 (.ofNat 0), .int .i64 (.ofNat 0)], .c (.bool true)]⟩,
  ⟨71, 1, [.v (.c (.ptr 5 0)), .v (.c (.int .i64 (.ofNat 1)))], .tup [.agg [.int .i64 (.ofNat 0), .int .i64 (.ofNat 0), .int .i64 (.ofNat 1)], .c (.bool true)]⟩,
  ⟨71, 2, [.v (.c (.ptr 5 0)), .v (.c (.int .i64 (.ofNat 2)))], .tup [.agg [.int .i64 (.ofNat 0), .int .i64 (.ofNat 0), .int .i64 (.ofNat 2)], .c (.bool true)]⟩,
  ⟨71, 3, [.v (.c (.ptr 5 0)), .v (.c (.int .i64 (.ofNat 3)))], .tup [.agg [.int .i64 (.ofNat 0), .int .i64 (.ofNat 0), .int .i64 (.ofNat 3)], .c (.bool true)]⟩,
  ⟨71, 4, [.v (.c (.ptr 5 0)), .v (.c (.int .i64 (.ofNat 4)))], .tup [.agg [.int .i64 (.ofNat 0), .int .i64 (.ofNat 0), .int .i64 (.ofNat 4)], .c (.bool true)]⟩,
  ⟨71, 5, [.v (.c (.ptr 5 0)), .v (.c (.int .i64 (.ofNat 5)))], .tup [.agg [.int .i64 (.ofNat 0), .int .i64 (.ofNat 0), .int .i64 (.ofNat 5)], .c (.bool true)]⟩,
  ⟨71, 6, [.v (.c (.ptr 5 0)), .v (.c (.int .i64 (.ofNat 6)))], .tup [.agg [.int .i64 (.ofNat 0), .int .i64 (.ofNat 0), .int .i64 (.ofNat 6)], .c (.bool true)]⟩,
  ⟨71, 7, [.v (.c (.ptr 5 0)), .v (.c (.int .i64 (.ofNat 7)))], .tup [.agg [.int .i64 (.ofNat 0), .int .i64 (.ofNat 0), .int .i64 (.ofNat 7)], .c (.bool true)]⟩,
  ⟨71, 8, [.v (.c (.ptr 5 0)), .v (.c (.int .i64 (.ofNat 8)))], .tup [.agg [.int .i64 (.ofNat 0), .int .i64 (.ofNat 0), .int .i64 (.ofNat 8)], .c (.bool true)]⟩,
  ⟨71, 9, [.v (.c (.ptr 5 0)), .v (.c (.int .i64 (.ofNat 9)))], .tup [.agg [.int .i64 (.ofNat 0), .int .i64 (.ofNat 0), .int .i64 (.ofNat 9)], .c (.bool true)]⟩,
  ⟨71, 10, [.v (.c (.ptr 5 0)), .v (.c (.int .i64 (.ofNat 10)))], .tup [.agg [.int .i64 (.ofNat 0), .int .i64 (.ofNat 0), .int .i64 (.ofNat 10)], .c (.bool true)]⟩,
  ⟨71, 11, [.v (.c (.ptr 5 0)), .v (.c (.int .i64 (.ofNat 11)))], .tup [.agg [.int .i64 (.ofNat 0), .int .i64 (.ofNat 0), .int .i64 (.ofNat 11)], .c (.bool true)]⟩,
  ⟨71, 12, [.v (.c (.ptr 5 0)), .v (.c (.int .i64 (.ofNat 12)))], .tup [.agg [.int .i64 (.ofNat 0), .int .i64 (.ofNat 0), .int .i64 (.ofNat 12)], .c (.bool true)]⟩,
  ⟨71, 13, [.v (.c (.ptr 5 0)), .v (.c (.int .i64 (.ofNat 13)))], .tup [.agg [.int .i64 (.ofNat 0), .int .i64 (.ofNat 0), .int .i64 (.ofNat 13)], .c (.bool true)]⟩,
  ⟨71, 14, [.v (.c (.ptr 5 0)), .v (.c (.int .i64 (.ofNat 14)))], .tup [.agg [.int .i64 (.ofNat 0), .int .i64 (.ofNat 0), .int .i64 (.ofNat 14)], .c (.bool true)]⟩,
  ⟨71, 15, [.v (.c (.ptr 5 0)), .v (.c (.int .i64 (.ofNat 15)))], .tup [.agg [.int .i64 (.ofNat 0), .int .i64 (.ofNat 0), .int .i64 (.ofNat 15)], .c (.bool true)]⟩,
  ⟨71, 16, [.v (.c (.ptr 5 0)), .v (.c (.int .i64 (.ofNat 16)))], .tup [.agg [.int .i64 (.ofNat 0), .int .i64 (.ofNat 0), .int .i64 (.ofNat 16)], .c (.bool true)]⟩,
  ⟨71, 17, [.v (.c (.ptr 5 0)), .v (.c (.int .i64 (.ofNat 17)))], .tup [.agg [.int .i64 (.ofNat 0), .int .i64 (.ofNat 0), .int .i64 (.ofNat 17)], .c (.bool true)]⟩,
  ⟨71, 18, [.v (.c (.ptr 5 0)), .v (.c (.int .i64 (.ofNat 18)))], .tup [.agg [.int .i64 (.ofNat 0), .int .i64 (.ofNat 0), .int .i64 (.ofNat 18)], .c (.bool true)]⟩,
  ⟨71, 19, [.v (.c (.ptr 5 0)), .v (.c (.int .i64 (.ofNat 19)))], .tup [.agg [.int .i64 (.ofNat 0), .int .i64 (.ofNat 0), .int .i64 (.ofNat 19)], .c (.bool true)]⟩,
  ⟨71, 20, [.v (.c (.ptr 5 0)), .v (.c (.int .i64 (.ofNat 20)))], .tup [.agg [.int .i64 (.ofNat 0), .int .i64 (.ofNat 0), .int .i64 (.ofNat 20)], .c (.bool true)]⟩,
  ⟨71, 21, [.v (.c (.ptr 5 0)), .v (.c (.int .i64 (.ofNat 21)))], .tup [.agg [.int .i64 (.ofNat 1), .int .i64 (.ofNat 0), .int .i64 (.ofNat 0)], .c (.bool true)]⟩,
  ⟨71, 22, [.v (.c (.ptr 5 0)), .v (.c (.int .i64 (.ofNat 22)))], .tup [.agg [.int .i64 (.ofNat 1), .int .i64 (.ofNat 0), .int .i64 (.ofNat 1)], .c (.bool true)]⟩]⟩
theorem CallsBack_19_m1_ok : tblK (fun f l s => runW hkT f l s) CallsBack_19_m1.bl CallsBack_19_m1.nb CallsBack_19_m1.t = true := by kernel_rfl
noncomputable abbrev CallsBack_19_ms : List MM := [CallsBack_19_m0, CallsBack_19_m1]
theorem CallsBack_19_all : AllT CallsBack_19_ms := ⟨CallsBack_19_m0_ok, CallsBack_19_m1_ok, trivial⟩
theorem CallsBack_19_run : isBool true (runW (memosK hkT CallsBack_19_ms) 9 [ai (Int.ofNat 19)] s0) = true := by kernel_rfl
end Go.Proofs.YtjjfahgdmaikpaaGreatDoor
