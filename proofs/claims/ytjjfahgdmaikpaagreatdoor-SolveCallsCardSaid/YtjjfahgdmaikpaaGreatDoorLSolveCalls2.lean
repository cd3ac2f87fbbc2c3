/- Tables of calls, and a run that uses them. -/
import Derived.Test.YtjjfahgdmaikpaaGreatDoorLm1
namespace Go.Proofs.YtjjfahgdmaikpaaGreatDoor
open Go Go.RowKit Ev
set_option maxRecDepth 100000
set_option linter.unusedVariables false
noncomputable def SolveCalls_2_m0 : MM := ⟨[100], [(3, ⟨[.slice 27 0 5 (.opn 0), .int .i64 (.ofNat 3), .int .i64 (.ofNat 0), .int .i64 (.ofNat 0), .int .i64 (.ofNat 0)], 51, 0, none⟩),
  (5, ⟨[.slice 8 0 1 (.fix 1), .slice 11 0 2 (.opn 0), .snil, .snil, .slice 15 0 2 (.opn 0), .int .i64 (.ofNat 0)], 44, 0, none⟩),
  (7, ⟨[.int .i64 (.ofNat 0), .int .i64 (.ofNat 0)], 36, 0, none⟩),
  (8, ⟨[.slice 7 0 1 (.fix 1)], 37, 0, none⟩),
  (9, ⟨[.int .i64 (.ofNat 1), .int .i64 (.ofNat 0)], 36, 0, none⟩),
  (11, ⟨[.snil, .int .i64 (.ofNat 0), .int .i64 (.ofNat 0), .slice 9 0 1 (.fix 1), .int .i64 (.ofNat 1), .int .i64 (.ofNat 0)], 63, 3, none⟩),
  (12, ⟨[.int .i64 (.ofNat 1), .int .i64 (.ofNat 0)], 36, 0, none⟩),
  (13, ⟨[.snil, .int .i64 (.ofNat 3), .int .i64 (.ofNat 0), .int .i64 (.ofNat 0), .int .i64 (.ofNat 0)], 51, 0, none⟩),
  (15, ⟨[.int .i64 (.ofNat 0), .slice 24 0 5 (.opn 0), .slice 3 0 1 (.fix 1), .int .i64 (.ofNat 1), .slice 12 0 1 (.fix 1), .slice 13 0 1 (.fix 1)], 48, 3, none⟩),
  (18, ⟨[.int .i64 (.ofNat 1)], 3, 0, none⟩),
  (24, ⟨[.int .i64 (.ofNat 0), .int .i64 (.ofNat 0), .int .i64 (.ofNat 1), .int .i64 (.ofNat 0), .int .i64 (.ofNat 1), .int .i64 (.ofNat 0), .int .i64 (.ofNat 1), .int .i64 (.ofNat 0), .int .i64 (.ofNat 1), .int .i64 (.ofNat 0)], 36, 2, none⟩),
  (25, ⟨[.int .i64 (.ofNat 3)], 3, 0, none⟩),
  (27, ⟨[.int .i64 (.ofNat 1), .int .i64 (.ofNat 0), .int .i64 (.ofNat 0), .int .i64 (.ofNat 0), .int .i64 (.ofNat 7), .snil, .int .i64 (.ofNat 5), .int .i64 (.ofNat 1), .int .i64 (.ofNat 0), .int .i64 (.ofNat 0), .int .i64 (.ofNat 0), .snil, .int .i64 (.ofNat 12), .int .i64 (.ofNat 2), .int .i64 (.ofNat 0), .int .i64 (.ofNat 0), .int .i64 (.ofNat 1), .slice 18 0 1 (.fix 1), .int .i64 (.ofNat 5), .int .i64 (.ofNat 3), .int .i64 (.ofNat 0), .int .i64 (.ofNat 0), .int .i64 (.ofNat 0), .snil, .int .i64 (.ofNat 12), .int .i64 (.ofNat 4), .int .i64 (.ofNat 0), .int .i64 (.ofNat 0), .int .i64 (.ofNat 1), .slice 25 0 1 (.fix 1)], 53, 6, none⟩)], 30, [⟨100, 0, [.v (.c (.ptr 5 0))], .v (.c (.nili))⟩]⟩
theorem SolveCalls_2_m0_ok : tblK (fun f l s => runW hkT f l s) SolveCalls_2_m0.bl SolveCalls_2_m0.nb SolveCalls_2_m0.t = true := by kernel_rfl
noncomputable def SolveCalls_2_m1 : MM := ⟨[71], [(3, ⟨[.slice 27 0 5 (.opn 0), .int .i64 (.ofNat 3), .int .i64 (.ofNat 0), .int .i64 (.ofNat 0), .int .i64 (.ofNat 0)], 51, 0, none⟩),
  (5, ⟨[.slice 8 0 1 (.fix 1), .slice 11 0 2 (.opn 0), .snil, .snil, .slice 15 0 2 (.opn 0), .int .i64 (.ofNat 0)], 44, 0, none⟩),
  (13, ⟨[.snil, .int .i64 (.ofNat 3), .int .i64 (.ofNat 0), .int .i64 (.ofNat 0), .int .i64 (.ofNat 0)], 51, 0, none⟩),
  (15, ⟨[.int .i64 (.ofNat 0), .slice 24 0 5 (.opn 0), .slice 3 0 1 (.fix 1), .int .i64 (.ofNat 1), .slice 12 0 1 (.fix 1), .slice 13 0 1 (.fix 1)], 48, 3, none⟩)], 75, [⟨71, 0, [.v (.c (.ptr 5 0)), .v (.c (.int .i64 (.ofNat 0)))], .tup [.agg [.int .i64 (.ofNat 0), .int .i64 (.ofNat 0), .int .i64 (.ofNat 0)], .c (.bool true)]⟩,
  ⟨71, 1, [.v (.c (.ptr 5 0)), .v (.c (.int .i64 (.ofNat 1)))], .tup [.agg [.int .i64 (.ofNat 0), .int .i64 (.ofNat 0), .int .i64 (.ofNat 1)], .c (.bool true)]⟩,
  ⟨71, 2, [.v (.c (.ptr 5 0)), .v (.c (.int .i64 (.ofNat 2)))], .tup [.agg [.int .i64 (.ofNat 0), .int .i64 (.ofNat 0), .int .i64 (.ofNat 2)], .c (.bool true)]⟩,
  ⟨71, 3, [.v (.c (.ptr 5 0)), .v (.c (.int .i64 (.ofNat 3)))], .tup [.agg [.int .i64 (.ofNat 0), .int .i64 (.ofNat 0), .int .i64 (.ofNat 3)], .c (.bool true)]⟩,
  ⟨71, 4, [.v (.c (.ptr 5 0)), .v (.c (.int .i64 (.ofNat 4)))], .tup [.agg [.int .i64 (.ofNat 0), .int .i64 (.ofNat 0), .int .i64 (.ofNat 4)], .c (.bool true)]⟩,
  ⟨71, 5, [.v (.c (.ptr 5 0)), .v (.c (.int .i64 (.ofNat 5)))], .tup [.agg [.int .i64 (.ofNat 0), .int .i64 (.ofNat 0), .int .i64 (.ofNat 5)], .c (.bool true)]⟩,
  ⟨71, 6, [.v (.c (.ptr 5 0)), .v (.c (.int .i64 (.ofNat 6)))], .tup [.agg [.int .i64 (.ofNat 1), .int .i64 (.ofNat 0), .int .i64 (.ofNat 0)], .c (.bool true)]⟩]⟩
theorem SolveCalls_2_m1_ok : tblK (fun f l s => runW hkT f l s) SolveCalls_2_m1.bl SolveCalls_2_m1.nb SolveCalls_2_m1.t = true := by kernel_rfl
noncomputable abbrev SolveCalls_2_ms : List MM := [SolveCalls_2_m0, SolveCalls_2_m1]
theorem SolveCalls_2_all : AllT SolveCalls_2_ms := ⟨SolveCalls_2_m0_ok, SolveCalls_2_m1_ok, trivial⟩
theorem SolveCalls_2_run : isBool true (runW (memosK hkT SolveCalls_2_ms) 6 [ai (Int.ofNat 2)] s0) = true := by kernel_rfl
end Go.Proofs.YtjjfahgdmaikpaaGreatDoor
