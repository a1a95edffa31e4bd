import Derived.Test.YtanonhipicoigaaGreatDoorRows
import Derived.JoinedOf
namespace Go.Proofs.YtanonhipicoigaaGreatDoor
open Go
theorem segmentCutOffClosed : joinedFacts Tryz.pinned.checked.prog 8 Tryz.f8 Rows.segmentCutOffSpec Rows.segmentCutOffRow = true := by kernel_rfl
end Go.Proofs.YtanonhipicoigaaGreatDoor
