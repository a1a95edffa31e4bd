import Derived.Test.YtanonhipicoigaaGreatDoorRows
import Derived.SevenTiedAt
set_option linter.unusedVariables false
set_option linter.unusedSimpArgs false
set_option maxRecDepth 100000
namespace Go.Proofs.YtanonhipicoigaaGreatDoor
open Go
theorem LY : true = Tryz.pinned.checked.prog.looks [] := by kernel_rfl
theorem LZ : Tryz.prog.funcNamed "penstock/penstocktop.TopStored" = some 3 := by kernel_rfl
theorem L6 : ([3, 22, 3, 23].all fun u => !Tryz.prog.wantsStandIn u) = true := by kernel_rfl
end Go.Proofs.YtanonhipicoigaaGreatDoor
