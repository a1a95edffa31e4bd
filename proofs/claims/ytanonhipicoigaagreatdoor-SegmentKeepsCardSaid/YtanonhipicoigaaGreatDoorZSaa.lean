import Derived.Test.YtanonhipicoigaaGreatDoorRows
import Derived.JoinedOf
namespace Go.Proofs.YtanonhipicoigaaGreatDoor
open Go
theorem segmentKeepsClosed : joinedFacts Tryz.pinned.checked.prog 6 Tryz.f6 Rows.segmentKeepsSpec Rows.segmentKeepsRow = true := by kernel_rfl
end Go.Proofs.YtanonhipicoigaaGreatDoor
