import Derived.Test.YtanonhipicoigaaGreatDoorRows
import Derived.JoinedOf
namespace Go.Proofs.YtanonhipicoigaaGreatDoor
open Go
theorem segmentDropsClosed : joinedFacts Tryz.pinned.checked.prog 9 Tryz.f9 Rows.segmentDropsSpec Rows.segmentDropsRow = true := by kernel_rfl
end Go.Proofs.YtanonhipicoigaaGreatDoor
