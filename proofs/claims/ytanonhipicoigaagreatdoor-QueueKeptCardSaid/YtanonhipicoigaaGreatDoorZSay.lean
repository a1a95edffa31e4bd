import Derived.Test.YtanonhipicoigaaGreatDoorRows
import Derived.SevenTiedAt
set_option linter.unusedVariables false
set_option linter.unusedSimpArgs false
set_option maxRecDepth 100000
namespace Go.Proofs.YtanonhipicoigaaGreatDoor
open Go
theorem LX : true = Tryz.pinned.checked.prog.looks [] := by kernel_rfl
theorem LY : Tryz.prog.funcNamed "penstock/penstocklaw11.QueueKept" = some 16 := by kernel_rfl
theorem LZ : ([3, 3, 89, 3, 3, 84, 23].all fun u => !Tryz.prog.wantsStandIn u) = true := by kernel_rfl
end Go.Proofs.YtanonhipicoigaaGreatDoor
