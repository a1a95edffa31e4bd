import Derived.Test.YtanonhipicoigaaGreatDoorRows
import Derived.SevenTiedAt
set_option linter.unusedVariables false
set_option linter.unusedSimpArgs false
namespace Go.Proofs.YtanonhipicoigaaGreatDoor
open Go
theorem QY : false = Rows.queueFullRow.goesBy Tryz.pinned.checked.prog := by kernel_rfl
end Go.Proofs.YtanonhipicoigaaGreatDoor
