import Derived.Test.YtanonhipicoigaaGreatDoorRows
import Derived.JoinedOf
namespace Go.Proofs.YtanonhipicoigaaGreatDoor
open Go
theorem segmentAgainClosed : joinedFacts Tryz.pinned.checked.prog 4 Tryz.f4 Rows.segmentAgainSpec Rows.segmentAgainRow = true := by kernel_rfl
end Go.Proofs.YtanonhipicoigaaGreatDoor
