import Derived.Test.YtanonhipicoigaaGreatDoorRows
import Derived.SevenTiedAt
namespace Go.Proofs.YtanonhipicoigaaGreatDoor
open Go
theorem segmentTwinsGoes : false = Rows.segmentTwinsRow.goesBy Tryz.pinned.checked.prog := by kernel_rfl
end Go.Proofs.YtanonhipicoigaaGreatDoor
