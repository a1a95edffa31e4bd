import Derived.Test.YtanonhipicoigaaGreatDoorRows
import Derived.SevenTiedAt
set_option linter.unusedVariables false
set_option linter.unusedSimpArgs false
set_option maxRecDepth 100000
namespace Go.Proofs.YtanonhipicoigaaGreatDoor
open Go
theorem KG : false = Rows.queueRightRow.goesBy Tryz.pinned.checked.prog := by kernel_rfl
end Go.Proofs.YtanonhipicoigaaGreatDoor
