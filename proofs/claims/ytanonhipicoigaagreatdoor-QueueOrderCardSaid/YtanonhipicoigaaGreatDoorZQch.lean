import Derived.Test.YtanonhipicoigaaGreatDoorZQcc
import Derived.Test.YtanonhipicoigaaGreatDoorZQcd
import Derived.Test.YtanonhipicoigaaGreatDoorZQce
import Derived.Test.YtanonhipicoigaaGreatDoorZQcf
import Derived.Test.YtanonhipicoigaaGreatDoorZQcg
set_option linter.unusedVariables false
set_option linter.unusedSimpArgs false
namespace Go.Proofs.YtanonhipicoigaaGreatDoor
open Go
theorem dJ {a b : Bool} (h : a = true) (k : b = true) : (a && b) = true := by rw [h, k]; rfl
set_option maxRecDepth 1000000 in
theorem KY : joinedFacts Tryz.pinned.checked.prog 10 Tryz.f10 Rows.queueOrderSpec Rows.queueOrderRow = true := by
 unfold joinedFacts
 exact (dJ (dJ (dJ (dJ (dJ (dJ (dJ (dJ (dJ (dJ (dJ (dJ (dJ (dJ (dJ (dJ (dJ (dJ (dJ (dJ (dJ (dJ (dJ (dJ (dJ (dJ (dJ (dJ (dJ (dJ (dJ JG JH) JI) JJ) JK) JL) JM) JO) JQ) JF) EF) EG) EH) EI) EJ) EK) EL) EM) EN) EO) EP) ER) ES) ET) EU) EW) EX) EY) EZ) E8) FC) FD)
end Go.Proofs.YtanonhipicoigaaGreatDoor
