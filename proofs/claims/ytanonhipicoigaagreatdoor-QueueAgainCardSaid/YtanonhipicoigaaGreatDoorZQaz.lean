import Derived.Test.YtanonhipicoigaaGreatDoorRows
import Derived.SevenTiedAt
set_option linter.unusedVariables false
set_option linter.unusedSimpArgs false
namespace Go.Proofs.YtanonhipicoigaaGreatDoor
open Go
theorem MS : true = Tryz.pinned.checked.prog.looks [] := by kernel_rfl
theorem MV : Tryz.prog.funcNamed "penstock/penstocklaw11.QueueAgain" = some 13 := by kernel_rfl
theorem MW : ([33, 23].all fun u => !Tryz.prog.wantsStandIn u) = true := by kernel_rfl
end Go.Proofs.YtanonhipicoigaaGreatDoor
