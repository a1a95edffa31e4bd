import Derived.Test.YtanonhipicoigaaGreatDoorZQaa
import Derived.Test.YtanonhipicoigaaGreatDoorZQab
import Derived.Test.YtanonhipicoigaaGreatDoorZQac
import Derived.Test.YtanonhipicoigaaGreatDoorZQad
import Derived.Test.YtanonhipicoigaaGreatDoorZQae
set_option linter.unusedVariables false
set_option linter.unusedSimpArgs false
namespace Go.Proofs.YtanonhipicoigaaGreatDoor
open Go
theorem dJ {a b : Bool} (h : a = true) (k : b = true) : (a && b) = true := by rw [h, k]; rfl
set_option maxRecDepth 1000000 in
theorem JR : joinedFacts Tryz.pinned.checked.prog 13 Tryz.f13 Rows.queueAgainSpec Rows.queueAgainRow = true := by
 unfold joinedFacts
 exact (dJ (dJ (dJ (dJ (dJ (dJ (dJ (dJ (dJ (dJ (dJ (dJ (dJ (dJ (dJ (dJ (dJ (dJ (dJ (dJ (dJ (dJ (dJ (dJ (dJ (dJ (dJ (dJ (dJ (dJ (dJ FN FP) FQ) FT) FU) FV) FW) FX) FY) FH) AU) AV) AX) AY) AZ) BA) BD) BF) BG) BH) BI) BJ) BK) BM) BN) BO) BP) BQ) BR) BU) BX) BZ)
end Go.Proofs.YtanonhipicoigaaGreatDoor
