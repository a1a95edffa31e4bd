import Derived.Test.YtanonhipicoigaaGreatDoorRows
import Derived.SevenTiedAt
namespace Go.Proofs.YtanonhipicoigaaGreatDoor
open Go
theorem segmentAgainLooks : true = Tryz.pinned.checked.prog.looks [] := by kernel_rfl
theorem segmentAgainNamed : Tryz.prog.funcNamed "penstock/penstocklaw10.SegmentAgain" = some 4 := by kernel_rfl
theorem segmentAgainStand : ([27, 3].all fun u => !Tryz.prog.wantsStandIn u) = true := by kernel_rfl
end Go.Proofs.YtanonhipicoigaaGreatDoor
