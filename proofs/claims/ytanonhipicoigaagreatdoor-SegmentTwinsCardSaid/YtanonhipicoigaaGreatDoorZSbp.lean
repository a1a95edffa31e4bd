import Derived.Test.YtanonhipicoigaaGreatDoorRows
import Derived.SevenTiedAt
namespace Go.Proofs.YtanonhipicoigaaGreatDoor
open Go
theorem segmentTwinsLooks : true = Tryz.pinned.checked.prog.looks [] := by kernel_rfl
theorem segmentTwinsNamed : Tryz.prog.funcNamed "penstock/penstocklaw10.SegmentTwins" = some 5 := by kernel_rfl
theorem segmentTwinsStand : ([3, 22, 9].all fun u => !Tryz.prog.wantsStandIn u) = true := by kernel_rfl
end Go.Proofs.YtanonhipicoigaaGreatDoor
