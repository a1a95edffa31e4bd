import Derived.Test.YtanonhipicoigaaGreatDoorRows
import Derived.SevenTiedAt
namespace Go.Proofs.YtanonhipicoigaaGreatDoor
open Go
theorem segmentCutOffLooks : true = Tryz.pinned.checked.prog.looks [] := by kernel_rfl
theorem segmentCutOffNamed : Tryz.prog.funcNamed "penstock/penstocklaw10.SegmentCutOff" = some 8 := by kernel_rfl
theorem segmentCutOffStand : ([27, 3, 3, 23].all fun u => !Tryz.prog.wantsStandIn u) = true := by kernel_rfl
end Go.Proofs.YtanonhipicoigaaGreatDoor
