import Derived.Test.YtanonhipicoigaaGreatDoorRows
import Derived.SevenTiedAt
set_option linter.unusedVariables false
set_option linter.unusedSimpArgs false
set_option maxRecDepth 100000
namespace Go.Proofs.YtanonhipicoigaaGreatDoor
open Go
theorem PD : Rows.queueRightRow.wfByText (OpenSpec.ofChange Rows.queueRightSpec) = true := by kernel_rfl
theorem KF : Tryz.pinned.checked.prog.mainIs = some ((true, "cd2a3cefb2b8248c80f84a312be7b7ed93626f4a14baa6a6ae065eb9ed7122ee").1, (true, "cd2a3cefb2b8248c80f84a312be7b7ed93626f4a14baa6a6ae065eb9ed7122ee").2.toList) := by kernel_rfl
end Go.Proofs.YtanonhipicoigaaGreatDoor
