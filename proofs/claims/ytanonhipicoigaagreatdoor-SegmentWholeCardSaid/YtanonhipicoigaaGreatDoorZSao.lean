import Derived.Test.YtanonhipicoigaaGreatDoorRows
import Derived.JoinedOf
namespace Go.Proofs.YtanonhipicoigaaGreatDoor
open Go
theorem segmentWholeClosed : joinedFacts Tryz.pinned.checked.prog 7 Tryz.f7 Rows.segmentWholeSpec Rows.segmentWholeRow = true := by kernel_rfl
end Go.Proofs.YtanonhipicoigaaGreatDoor
