import Derived.Test.YtanonhipicoigaaGreatDoorRows
import Derived.SevenTiedAt
set_option linter.unusedVariables false
set_option linter.unusedSimpArgs false
set_option maxRecDepth 100000
namespace Go.Proofs.YtanonhipicoigaaGreatDoor
open Go
theorem GK : true = Tryz.pinned.checked.prog.looks [] := by kernel_rfl
theorem GL : Tryz.prog.funcNamed "penstock/penstocklaw11.QueueRight" = some 15 := by kernel_rfl
theorem GN : ([33, 84].all fun u => !Tryz.prog.wantsStandIn u) = true := by kernel_rfl
end Go.Proofs.YtanonhipicoigaaGreatDoor
