import Derived.Test.YtanonhipicoigaaGreatDoorZTaa
import Derived.Test.YtanonhipicoigaaGreatDoorZTab
import Derived.Test.YtanonhipicoigaaGreatDoorZTac
import Derived.Test.YtanonhipicoigaaGreatDoorZTad
import Derived.Test.YtanonhipicoigaaGreatDoorZTae
set_option linter.unusedVariables false
set_option linter.unusedSimpArgs false
set_option maxRecDepth 100000
namespace Go.Proofs.YtanonhipicoigaaGreatDoor
open Go
theorem oW {a b : Bool} (h : a = true) (k : b = true) : (a && b) = true := by rw [h, k]; rfl
set_option maxRecDepth 1000000 in
theorem IU : joinedFacts Tryz.pinned.checked.prog 3 Tryz.f3 Rows.topStoredSpec Rows.topStoredRow = true := by
 unfold joinedFacts
 exact (oW (oW (oW (oW (oW (oW (oW (oW (oW (oW (oW (oW (oW (oW (oW (oW (oW (oW (oW (oW (oW (oW (oW (oW (oW (oW (oW (oW (oW (oW (oW EI EJ) EK) EL) EM) EN) EO) EP) ER) EH) BM) BN) BO) BP) BQ) BR) BU) BX) BZ) CB) CG) CJ) CO) CP) CQ) CS) CU) CV) CW) CX) CY) CZ)
end Go.Proofs.YtanonhipicoigaaGreatDoor
