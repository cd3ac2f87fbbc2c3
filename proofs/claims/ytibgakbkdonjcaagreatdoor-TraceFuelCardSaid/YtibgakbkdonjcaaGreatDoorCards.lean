/-
  DERIVED. GIVEN WITH THE SEED: THE CARDS: each row of YtibgakbkdonjcaaGreatDoorRows.lean that lists a variable, with what it lists TIED to the program's text (the seventh form; the later family's looks); each row that meets fmt, with fmt's text TOLD by the authors' own Lean function (tested against real Go, not proved from fmt's source: count such statements apart). THE CARD IS WHAT COUNTS. Prove the row's statement (the work); the ties are given (YtibgakbkdonjcaaGreatDoorTie.lean); close each card by the builder's one call (the guide's Derived/Test/ToyasCard.lean, 'card_holds'). Laid BY PROGRAM, IN A SANDBOX (cutbox-door.mjs). By AI agents, Wed Nov 11 2026. No macro, syntax, notation, axiom, sorry.
-/
import Derived.Test.YtibgakbkdonjcaaGreatDoorRows
import GoSem.ClaimSeven
namespace Go.Proofs.YtibgakbkdonjcaaGreatDoor
namespace Rows

/-- THE TIED CARD OF 'haruspexlaw15.TraceRun'. -/
def traceRunCard : Claim7 := { stood := { row := traceRunRow, standIns := [], harness := (true, "76b94e03a51d1c6b4b79f7a385a951da04676e4933dc640799ce8c74ff2ea8f3"), looks := true }, kinds := [], alts := [], laidByText := true, laidKinds := [.handle], laidTests := true, laidLooks := .later }
def TraceRunCardSaid : Prop := Claim7.holds Tryz.pinned (.plain (OpenSpec.ofChange traceRunSpec)) traceRunCard

/-- THE TIED CARD OF 'haruspexlaw15.TraceMore'. -/
def traceMoreCard : Claim7 := { stood := { row := traceMoreRow, standIns := [], harness := (true, "76b94e03a51d1c6b4b79f7a385a951da04676e4933dc640799ce8c74ff2ea8f3"), looks := true }, kinds := [], alts := [], laidByText := true, laidKinds := [.handle], laidTests := true, laidLooks := .later }
def TraceMoreCardSaid : Prop := Claim7.holds Tryz.pinned (.plain (OpenSpec.ofChange traceMoreSpec)) traceMoreCard

/-- THE TIED CARD OF 'haruspexlaw15.TraceTwins'. -/
def traceTwinsCard : Claim7 := { stood := { row := traceTwinsRow, standIns := [], harness := (true, "76b94e03a51d1c6b4b79f7a385a951da04676e4933dc640799ce8c74ff2ea8f3"), looks := true }, kinds := [], alts := [], laidByText := true, laidKinds := [.handle], laidTests := true, laidLooks := .later }
def TraceTwinsCardSaid : Prop := Claim7.holds Tryz.pinned (.plain (OpenSpec.ofChange traceTwinsSpec)) traceTwinsCard

/-- THE TIED CARD OF 'haruspexlaw15.TraceTold'. -/
def traceToldCard : Claim7 := { stood := { row := traceToldRow, standIns := [], harness := (true, "76b94e03a51d1c6b4b79f7a385a951da04676e4933dc640799ce8c74ff2ea8f3"), looks := true }, kinds := [], alts := [], laidByText := true, laidKinds := [.handle], laidTests := true, laidLooks := .later }
def TraceToldCardSaid : Prop := Claim7.holds Tryz.pinned (.plain (OpenSpec.ofChange traceToldSpec)) traceToldCard

/-- THE TIED CARD OF 'haruspexlaw15.TraceFuel'. -/
def traceFuelCard : Claim7 := { stood := { row := traceFuelRow, standIns := [], harness := (true, "76b94e03a51d1c6b4b79f7a385a951da04676e4933dc640799ce8c74ff2ea8f3"), looks := true }, kinds := [], alts := [], laidByText := true, laidKinds := [.handle], laidTests := true, laidLooks := .later }
def TraceFuelCardSaid : Prop := Claim7.holds Tryz.pinned (.plain (OpenSpec.ofChange traceFuelSpec)) traceFuelCard

/-- THE SECOND FORM's CARD OF 'haruspexlaw15.TraceRun'. -/
def traceRunUptoCard : Claim7 := { stood := { row := traceRunUptoRow, standIns := [], harness := (true, "76b94e03a51d1c6b4b79f7a385a951da04676e4933dc640799ce8c74ff2ea8f3"), looks := true }, kinds := [], alts := [], laidByText := true, laidKinds := [.handle], laidTests := true, laidLooks := .later }
def TraceRunUptoCardSaid : Prop := Claim7.holds Tryz.pinned (.plain (OpenSpec.upto traceRunSpec)) traceRunUptoCard

/-- THE SECOND FORM's CARD OF 'haruspexlaw15.TraceMore'. -/
def traceMoreUptoCard : Claim7 := { stood := { row := traceMoreUptoRow, standIns := [], harness := (true, "76b94e03a51d1c6b4b79f7a385a951da04676e4933dc640799ce8c74ff2ea8f3"), looks := true }, kinds := [], alts := [], laidByText := true, laidKinds := [.handle], laidTests := true, laidLooks := .later }
def TraceMoreUptoCardSaid : Prop := Claim7.holds Tryz.pinned (.plain (OpenSpec.upto traceMoreSpec)) traceMoreUptoCard

/-- THE SECOND FORM's CARD OF 'haruspexlaw15.TraceTwins'. -/
def traceTwinsUptoCard : Claim7 := { stood := { row := traceTwinsUptoRow, standIns := [], harness := (true, "76b94e03a51d1c6b4b79f7a385a951da04676e4933dc640799ce8c74ff2ea8f3"), looks := true }, kinds := [], alts := [], laidByText := true, laidKinds := [.handle], laidTests := true, laidLooks := .later }
def TraceTwinsUptoCardSaid : Prop := Claim7.holds Tryz.pinned (.plain (OpenSpec.upto traceTwinsSpec)) traceTwinsUptoCard

/-- THE SECOND FORM's CARD OF 'haruspexlaw15.TraceTold'. -/
def traceToldUptoCard : Claim7 := { stood := { row := traceToldUptoRow, standIns := [], harness := (true, "76b94e03a51d1c6b4b79f7a385a951da04676e4933dc640799ce8c74ff2ea8f3"), looks := true }, kinds := [], alts := [], laidByText := true, laidKinds := [.handle], laidTests := true, laidLooks := .later }
def TraceToldUptoCardSaid : Prop := Claim7.holds Tryz.pinned (.plain (OpenSpec.upto traceToldSpec)) traceToldUptoCard

/-- THE SECOND FORM's CARD OF 'haruspexlaw15.TraceFuel'. -/
def traceFuelUptoCard : Claim7 := { stood := { row := traceFuelUptoRow, standIns := [], harness := (true, "76b94e03a51d1c6b4b79f7a385a951da04676e4933dc640799ce8c74ff2ea8f3"), looks := true }, kinds := [], alts := [], laidByText := true, laidKinds := [.handle], laidTests := true, laidLooks := .later }
def TraceFuelUptoCardSaid : Prop := Claim7.holds Tryz.pinned (.plain (OpenSpec.upto traceFuelSpec)) traceFuelUptoCard
end Rows
end Go.Proofs.YtibgakbkdonjcaaGreatDoor
