import Derived.Test.YtanonhipicoigaaGreatDoorZSaa
import Derived.Test.YtanonhipicoigaaGreatDoorZSab
import Derived.Test.YtanonhipicoigaaGreatDoorZSac
import Derived.Test.YtanonhipicoigaaGreatDoorZSad
import Derived.Test.YtanonhipicoigaaGreatDoorZSae
set_option linter.unusedVariables false
set_option linter.unusedSimpArgs false
set_option maxRecDepth 100000
namespace Go.Proofs.YtanonhipicoigaaGreatDoor
open Go
theorem oU {a b : Bool} (h : a = true) (k : b = true) : (a && b) = true := by rw [h, k]; rfl
set_option maxRecDepth 1000000 in
theorem II : joinedFacts Tryz.pinned.checked.prog 16 Tryz.f16 Rows.queueKeptSpec Rows.queueKeptRow = true := by
 unfold joinedFacts
 exact (oU (oU (oU (oU (oU (oU (oU (oU (oU (oU (oU (oU (oU (oU (oU (oU (oU (oU (oU (oU (oU (oU (oU (oU (oU (oU (oU (oU (oU (oU (oU EF EG) EH) EI) EJ) EK) EL) EM) EN) ED) BJ) BK) BM) BN) BO) BP) BQ) BR) BU) BX) BZ) CB) CG) CJ) CO) CP) CQ) CS) CU) CV) CW) CX)
end Go.Proofs.YtanonhipicoigaaGreatDoor
