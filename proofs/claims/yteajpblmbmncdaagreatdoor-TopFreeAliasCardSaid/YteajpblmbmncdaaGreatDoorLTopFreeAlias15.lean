/- Tables of calls, and a run that uses them. -/
import Derived.Test.YteajpblmbmncdaaGreatDoorLm
namespace Go.Proofs.YteajpblmbmncdaaGreatDoor
open Go Go.RowKit Ev
set_option maxRecDepth 100000
set_option linter.unusedVariables false
noncomputable def TopFreeAlias_7_f_m0 : MM := ⟨[48], [(1, ⟨[.int .i64 (.ofNat 0), .int .i64 (.ofNat 0), .int .i64 (.ofNat 0), .int .i64 (.ofNat 0), .int .i64 (.ofNat 1), .int .i64 (.ofNat 0)], 69, 0, none⟩),
  (2, ⟨[.slice 1 0 3 (.fix 3)], 47, 0, none⟩),
  (4, ⟨[.int .i64 (.ofNat 1), .int .i64 (.ofNat 0)], 69, 0, none⟩),
  (5, ⟨[.int .i64 (.ofNat 0), .int .i64 (.ofNat 0)], 69, 0, none⟩),
  (7, ⟨[.int .i64 (.ofNat 1), .int .i64 (.ofNat 0)], 69, 0, none⟩),
  (9, ⟨[.snil, .int .i64 (.ofNat 0), .int .i64 (.ofNat 0), .slice 4 0 1 (.fix 1), .int .i64 (.ofNat 0), .int .i64 (.ofNat 0), .slice 5 0 1 (.fix 1), .int .i64 (.ofNat 0), .int .i64 (.ofNat 0), .slice 7 0 1 (.fix 1), .int .i64 (.ofNat 1), .int .i64 (.ofNat 0)], 72, 0, none⟩),
  (10, ⟨[.int .i64 (.ofNat 0)], 3, 0, none⟩),
  (11, ⟨[.slice 10 0 1 (.fix 1)], 74, 0, none⟩),
  (12, ⟨[.slice 2 0 1 (.fix 1), .slice 9 0 4 (.fix 4), .slice 11 0 1 (.fix 1), .snil, .slice 50 0 1 (.opn 0), .int .i64 (.ofNat 0)], 57, 0, none⟩),
  (47, ⟨[.int .i64 (.ofNat 0), .int .i64 (.ofNat 0), .int .i64 (.ofNat 1), .int .i64 (.ofNat 0), .int .i64 (.ofNat 1), .int .i64 (.ofNat 0), .int .i64 (.ofNat 1), .int .i64 (.ofNat 0), .int .i64 (.ofNat 1), .int .i64 (.ofNat 0), .int .i64 (.ofNat 1), .int .i64 (.ofNat 0), .int .i64 (.ofNat 1), .int .i64 (.ofNat 0), .int .i64 (.ofNat 1), .int .i64 (.ofNat 0), .int .i64 (.ofNat 1), .int .i64 (.ofNat 0), .int .i64 (.ofNat 1), .int .i64 (.ofNat 0), .int .i64 (.ofNat 1), .int .i64 (.ofNat 0)], 69, 2, none⟩),
  (48, ⟨[.slice 84 0 13 (.opn 0), .int .i64 (.ofNat 3), .int .i64 (.ofNat 0), .int .i64 (.ofNat 0), .int .i64 (.ofNat 0)], 46, 0, none⟩),
  (50, ⟨[.int .i64 (.ofNat 0), .slice 47 0 11 (.opn 0), .slice 48 0 1 (.fix 1)], 50, 3, none⟩),
  (84, ⟨[.int .i64 (.ofNat 1), .int .i64 (.ofNat 0), .int .i64 (.ofNat 0), .int .i64 (.ofNat 0), .int .i64 (.ofNat 1), .snil, .int .i64 (.ofNat 5), .int .i64 (.ofNat 1), .int .i64 (.ofNat 0), .int .i64 (.ofNat 0), .int .i64 (.ofNat 0), .snil, .int .i64 (.ofNat 5), .int .i64 (.ofNat 10), .int .i64 (.ofNat 0), .int .i64 (.ofNat 0), .int .i64 (.ofNat 0), .snil, .int .i64 (.ofNat 6), .int .i64 (.ofNat 2), .int .i64 (.ofNat 1), .int .i64 (.ofNat 0), .int .i64 (.ofNat 0), .snil, .int .i64 (.ofNat 6), .int .i64 (.ofNat 3), .int .i64 (.ofNat 2), .int .i64 (.ofNat 0), .int .i64 (.ofNat 0), .snil, .int .i64 (.ofNat 6), .int .i64 (.ofNat 4), .int .i64 (.ofNat 3), .int .i64 (.ofNat 0), .int .i64 (.ofNat 0), .snil, .int .i64 (.ofNat 6), .int .i64 (.ofNat 5), .int .i64 (.ofNat 4), .int .i64 (.ofNat 0), .int .i64 (.ofNat 0), .snil, .int .i64 (.ofNat 6), .int .i64 (.ofNat 6), .int .i64 (.ofNat 5), .int .i64 (.ofNat 0), .int .i64 (.ofNat 0), .snil, .int .i64 (.ofNat 6), .int .i64 (.ofNat 7), .int .i64 (.ofNat 6), .int .i64 (.ofNat 0), .int .i64 (.ofNat 0), .snil, .int .i64 (.ofNat 6), .int .i64 (.ofNat 8), .int .i64 (.ofNat 7), .int .i64 (.ofNat 0), .int .i64 (.ofNat 0), .snil, .int .i64 (.ofNat 6), .int .i64 (.ofNat 9), .int .i64 (.ofNat 8), .int .i64 (.ofNat 0), .int .i64 (.ofNat 0), .snil, .int .i64 (.ofNat 9), .int .i64 (.ofNat 0), .int .i64 (.ofNat 1), .int .i64 (.ofNat 0), .int .i64 (.ofNat 0), .snil, .int .i64 (.ofNat 8), .int .i64 (.ofNat 0), .int .i64 (.ofNat 9), .int .i64 (.ofNat 0), .int .i64 (.ofNat 0), .snil], 29, 6, none⟩)], 87, [⟨48, 0, [.v (.c (.ptr 12 0))], .v (.c (.nili))⟩]⟩
theorem TopFreeAlias_7_f_m0_ok : tblK (fun f l s => runW hkT f l s) TopFreeAlias_7_f_m0.bl TopFreeAlias_7_f_m0.nb TopFreeAlias_7_f_m0.t = true := by kernel_rfl
noncomputable def TopFreeAlias_7_f_m1 : MM := ⟨[155], [(12, ⟨[.slice 2 0 1 (.fix 1), .slice 9 0 4 (.fix 4), .slice 11 0 1 (.fix 1), .snil, .slice 50 0 1 (.opn 0), .int .i64 (.ofNat 0)], 57, 0, none⟩),
  (48, ⟨[.slice 84 0 13 (.opn 0), .int .i64 (.ofNat 3), .int .i64 (.ofNat 0), .int .i64 (.ofNat 0), .int .i64 (.ofNat 0)], 46, 0, none⟩),
  (50, ⟨[.int .i64 (.ofNat 0), .slice 47 0 11 (.opn 0), .slice 48 0 1 (.fix 1)], 50, 3, none⟩)], 148, [⟨155, 0, [.v (.c (.ptr 12 0)), .v (.c (.int .i64 (.ofNat 0)))], .tup [.agg [.int .i64 (.ofNat 0), .int .i64 (.ofNat 0), .int .i64 (.ofNat 0)], .c (.bool true)]⟩,
  ⟨155, 1, [.v (.c (.ptr 12 0)), .v (.c (.int .i64 (.ofNat 1)))], .tup [.agg [.int .i64 (.ofNat 0), .int .i64 (.ofNat 0), .int .i64 (.ofNat 1)], .c (.bool true)]⟩,
  ⟨155, 2, [.v (.c (.ptr 12 0)), .v (.c (.int .i64 (.ofNat 2)))], .tup [.agg [.int .i64 (.ofNat 0), .int .i64 (.ofNat 0), .int .i64 (.ofNat 2)], .c (.bool true)]⟩,
  ⟨155, 3, [.v (.c (.ptr 12 0)), .v (.c (.int .i64 (.ofNat 3)))], .tup [.agg [.int .i64 (.ofNat 0), .int .i64 (.ofNat 0), .int .i64 (.ofNat 3)], .c (.bool true)]⟩,
  ⟨155, 4, [.v (.c (.ptr 12 0)), .v (.c (.int .i64 (.ofNat 4)))], .tup [.agg [.int .i64 (.ofNat 0), .int .i64 (.ofNat 0), .int .i64 (.ofNat 4)], .c (.bool true)]⟩,
  ⟨155, 5, [.v (.c (.ptr 12 0)), .v (.c (.int .i64 (.ofNat 5)))], .tup [.agg [.int .i64 (.ofNat 0), .int .i64 (.ofNat 0), .int .i64 (.ofNat 5)], .c (.bool true)]⟩,
  ⟨155, 6, [.v (.c (.ptr 12 0)), .v (.c (.int .i64 (.ofNat 6)))], .tup [.agg [.int .i64 (.ofNat 0), .int .i64 (.ofNat 0), .int .i64 (.ofNat 6)], .c (.bool true)]⟩,
  ⟨155, 7, [.v (.c (.ptr 12 0)), .v (.c (.int .i64 (.ofNat 7)))], .tup [.agg [.int .i64 (.ofNat 0), .int .i64 (.ofNat 0), .int .i64 (.ofNat 7)], .c (.bool true)]⟩,
  ⟨155, 8, [.v (.c (.ptr 12 0)), .v (.c (.int .i64 (.ofNat 8)))], .tup [.agg [.int .i64 (.ofNat 0), .int .i64 (.ofNat 0), .int .i64 (.ofNat 8)], .c (.bool true)]⟩,
  ⟨155, 9, [.v (.c (.ptr 12 0)), .v (.c (.int .i64 (.ofNat 9)))], .tup [.agg [.int .i64 (.ofNat 0), .int .i64 (.ofNat 0), .int .i64 (.ofNat 9)], .c (.bool true)]⟩,
  ⟨155, 10, [.v (.c (.ptr 12 0)), .v (.c (.int .i64 (.ofNat 10)))], .tup [.agg [.int .i64 (.ofNat 0), .int .i64 (.ofNat 0), .int .i64 (.ofNat 10)], .c (.bool true)]⟩,
  ⟨155, 11, [.v (.c (.ptr 12 0)), .v (.c (.int .i64 (.ofNat 11)))], .tup [.agg [.int .i64 (.ofNat 0), .int .i64 (.ofNat 0), .int .i64 (.ofNat 11)], .c (.bool true)]⟩,
  ⟨155, 12, [.v (.c (.ptr 12 0)), .v (.c (.int .i64 (.ofNat 12)))], .tup [.agg [.int .i64 (.ofNat 0), .int .i64 (.ofNat 0), .int .i64 (.ofNat 12)], .c (.bool true)]⟩,
  ⟨155, 13, [.v (.c (.ptr 12 0)), .v (.c (.int .i64 (.ofNat 13)))], .tup [.agg [.int .i64 (.ofNat 0), .int .i64 (.ofNat 0), .int .i64 (.ofNat 13)], .c (.bool true)]⟩]⟩
theorem TopFreeAlias_7_f_m1_ok : tblK (fun f l s => runW hkT f l s) TopFreeAlias_7_f_m1.bl TopFreeAlias_7_f_m1.nb TopFreeAlias_7_f_m1.t = true := by kernel_rfl
noncomputable abbrev TopFreeAlias_7_f_ms : List MM := [TopFreeAlias_7_f_m0, TopFreeAlias_7_f_m1]
theorem TopFreeAlias_7_f_all : AllT TopFreeAlias_7_f_ms := ⟨TopFreeAlias_7_f_m0_ok, TopFreeAlias_7_f_m1_ok, trivial⟩
theorem TopFreeAlias_7_f_run : isBool true (runW (memosK hkT TopFreeAlias_7_f_ms) 6 [mi 8 7, ab false] s0) = true := by kernel_rfl
end Go.Proofs.YteajpblmbmncdaaGreatDoor
