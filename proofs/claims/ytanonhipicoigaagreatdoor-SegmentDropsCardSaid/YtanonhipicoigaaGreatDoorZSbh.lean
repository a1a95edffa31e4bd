import Derived.Test.YtanonhipicoigaaGreatDoorRows
import Derived.SevenTiedAt
namespace Go.Proofs.YtanonhipicoigaaGreatDoor
open Go
theorem segmentDropsLooks : true = Tryz.pinned.checked.prog.looks [] := by kernel_rfl
theorem segmentDropsNamed : Tryz.prog.funcNamed "penstock/penstocklaw10.SegmentDrops" = some 9 := by kernel_rfl
theorem segmentDropsStand : ([3, 22, 28].all fun u => !Tryz.prog.wantsStandIn u) = true := by kernel_rfl
end Go.Proofs.YtanonhipicoigaaGreatDoor
