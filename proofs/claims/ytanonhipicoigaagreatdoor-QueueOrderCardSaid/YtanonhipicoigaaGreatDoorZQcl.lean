import Derived.Test.YtanonhipicoigaaGreatDoorRows
import Derived.SevenTiedAt
set_option linter.unusedVariables false
set_option linter.unusedSimpArgs false
namespace Go.Proofs.YtanonhipicoigaaGreatDoor
open Go
theorem ND : true = Tryz.pinned.checked.prog.looks [] := by kernel_rfl
theorem NG : Tryz.prog.funcNamed "penstock/penstocklaw11.QueueOrder" = some 10 := by kernel_rfl
theorem NH : ([3, 3, 22].all fun u => !Tryz.prog.wantsStandIn u) = true := by kernel_rfl
end Go.Proofs.YtanonhipicoigaaGreatDoor
