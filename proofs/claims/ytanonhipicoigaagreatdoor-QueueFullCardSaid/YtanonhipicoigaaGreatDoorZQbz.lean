import Derived.Test.YtanonhipicoigaaGreatDoorRows
import Derived.SevenTiedAt
set_option linter.unusedVariables false
set_option linter.unusedSimpArgs false
namespace Go.Proofs.YtanonhipicoigaaGreatDoor
open Go
theorem QC : true = Tryz.pinned.checked.prog.looks [] := by kernel_rfl
theorem QD : Tryz.prog.funcNamed "penstock/penstocklaw11.QueueFull" = some 11 := by kernel_rfl
theorem QE : ([3, 3].all fun u => !Tryz.prog.wantsStandIn u) = true := by kernel_rfl
end Go.Proofs.YtanonhipicoigaaGreatDoor
