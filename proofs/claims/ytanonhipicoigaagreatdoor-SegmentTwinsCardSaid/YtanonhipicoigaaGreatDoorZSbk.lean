import Derived.Test.YtanonhipicoigaaGreatDoorRows
import Derived.JoinedOf
namespace Go.Proofs.YtanonhipicoigaaGreatDoor
open Go
theorem segmentTwinsClosed : joinedFacts Tryz.pinned.checked.prog 5 Tryz.f5 Rows.segmentTwinsSpec Rows.segmentTwinsRow = true := by kernel_rfl
end Go.Proofs.YtanonhipicoigaaGreatDoor
