import Derived.Test.YtanonhipicoigaaGreatDoorRows
import Derived.SevenTiedAt
namespace Go.Proofs.YtanonhipicoigaaGreatDoor
open Go
theorem segmentWholeLooks : true = Tryz.pinned.checked.prog.looks [] := by kernel_rfl
theorem segmentWholeNamed : Tryz.prog.funcNamed "penstock/penstocklaw10.SegmentWhole" = some 7 := by kernel_rfl
theorem segmentWholeStand : ([3, 22, 9, 3, 23, 9].all fun u => !Tryz.prog.wantsStandIn u) = true := by kernel_rfl
end Go.Proofs.YtanonhipicoigaaGreatDoor
