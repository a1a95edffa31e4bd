import Derived.Test.YtanonhipicoigaaGreatDoorZRaa
import Derived.Test.YtanonhipicoigaaGreatDoorZRab
import Derived.Test.YtanonhipicoigaaGreatDoorZRac
import Derived.Test.YtanonhipicoigaaGreatDoorZRad
import Derived.Test.YtanonhipicoigaaGreatDoorZRae
set_option linter.unusedVariables false
set_option linter.unusedSimpArgs false
set_option maxRecDepth 100000
namespace Go.Proofs.YtanonhipicoigaaGreatDoor
open Go
theorem oL {a b : Bool} (h : a = true) (k : b = true) : (a && b) = true := by rw [h, k]; rfl
set_option maxRecDepth 1000000 in
theorem DW : joinedFacts Tryz.pinned.checked.prog 15 Tryz.f15 Rows.queueRightSpec Rows.queueRightRow = true := by
 unfold joinedFacts
 exact (oL (oL (oL (oL (oL (oL (oL (oL (oL (oL (oL (oL (oL (oL (oL (oL (oL (oL (oL (oL (oL (oL (oL (oL (oL (oL (oL (oL (oL (oL (oL BK BM) BN) BO) BP) BQ) BR) BU) BX) BJ) yZ) y5) y7) y8) y9) zB) zC) zD) zF) zG) zH) zI) zJ) zK) zL) zM) zN) zO) zQ) zT) zU) zV)
end Go.Proofs.YtanonhipicoigaaGreatDoor
