import Derived.Test.YtanonhipicoigaaGreatDoorZQbc
import Derived.Test.YtanonhipicoigaaGreatDoorZQbd
import Derived.Test.YtanonhipicoigaaGreatDoorZQbe
import Derived.Test.YtanonhipicoigaaGreatDoorZQbf
import Derived.Test.YtanonhipicoigaaGreatDoorZQbg
set_option linter.unusedVariables false
set_option linter.unusedSimpArgs false
namespace Go.Proofs.YtanonhipicoigaaGreatDoor
open Go
theorem dJ {a b : Bool} (h : a = true) (k : b = true) : (a && b) = true := by rw [h, k]; rfl
set_option maxRecDepth 1000000 in
theorem IE : joinedFacts Tryz.pinned.checked.prog 12 Tryz.f12 Rows.queueLeasesSpec Rows.queueLeasesRow = true := by
 unfold joinedFacts
 exact (dJ (dJ (dJ (dJ (dJ (dJ (dJ (dJ (dJ (dJ (dJ (dJ (dJ (dJ (dJ (dJ (dJ (dJ (dJ (dJ (dJ (dJ (dJ (dJ (dJ (dJ (dJ (dJ (dJ (dJ (dJ DY DZ) D5) D6) D7) D8) D9) EC) ED) DX) yY) yZ) y5) y7) y8) y9) zB) zC) zD) zF) zG) zH) zI) zJ) zK) zL) zM) zN) zO) zQ) zT) zU)
end Go.Proofs.YtanonhipicoigaaGreatDoor
