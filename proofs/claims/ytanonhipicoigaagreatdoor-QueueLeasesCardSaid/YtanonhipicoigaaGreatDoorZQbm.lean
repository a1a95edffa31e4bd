import Derived.Test.YtanonhipicoigaaGreatDoorRows
import Derived.SevenTiedAt
set_option linter.unusedVariables false
set_option linter.unusedSimpArgs false
namespace Go.Proofs.YtanonhipicoigaaGreatDoor
open Go
theorem KH : true = Tryz.pinned.checked.prog.looks [] := by kernel_rfl
theorem KI : Tryz.prog.funcNamed "penstock/penstocklaw11.QueueLeases" = some 12 := by kernel_rfl
theorem KJ : ([33].all fun u => !Tryz.prog.wantsStandIn u) = true := by kernel_rfl
end Go.Proofs.YtanonhipicoigaaGreatDoor
