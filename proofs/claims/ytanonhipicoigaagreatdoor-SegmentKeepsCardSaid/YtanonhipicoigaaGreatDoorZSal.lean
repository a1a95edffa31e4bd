import Derived.Test.YtanonhipicoigaaGreatDoorRows
import Derived.SevenTiedAt
namespace Go.Proofs.YtanonhipicoigaaGreatDoor
open Go
theorem segmentKeepsLooks : true = Tryz.pinned.checked.prog.looks [] := by kernel_rfl
theorem segmentKeepsNamed : Tryz.prog.funcNamed "penstock/penstocklaw10.SegmentKeeps" = some 6 := by kernel_rfl
theorem segmentKeepsStand : ([3, 22, 9, 3, 3, 23].all fun u => !Tryz.prog.wantsStandIn u) = true := by kernel_rfl
end Go.Proofs.YtanonhipicoigaaGreatDoor
