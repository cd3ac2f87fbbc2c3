/- ReportWhy: a closed fact of its row (in a text of its own: the kernel's memory). -/
import Derived.Test.YtjbnkokcbhfdgabGreatDoorRows
import Derived.KernelRfl
import Derived.ProofKit
import Derived.SevenTiedAt
namespace Go.Proofs.YtjbnkokcbhfdgabGreatDoor.reportWhy
theorem hgoes : false = Rows.reportWhyRow.goesBy Tryz.prog := by kernel_rfl
end Go.Proofs.YtjbnkokcbhfdgabGreatDoor.reportWhy
