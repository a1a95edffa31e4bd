import Derived.Test.YtanonhipicoigaaGreatDoorZQbp
import Derived.Test.YtanonhipicoigaaGreatDoorZQbq
import Derived.Test.YtanonhipicoigaaGreatDoorZQbr
import Derived.Test.YtanonhipicoigaaGreatDoorZQbs
import Derived.Test.YtanonhipicoigaaGreatDoorZQbt
set_option linter.unusedVariables false
set_option linter.unusedSimpArgs false
namespace Go.Proofs.YtanonhipicoigaaGreatDoor
open Go
theorem dJ {a b : Bool} (h : a = true) (k : b = true) : (a && b) = true := by rw [h, k]; rfl
set_option maxRecDepth 1000000 in
theorem NC : joinedFacts Tryz.pinned.checked.prog 11 Tryz.f11 Rows.queueFullSpec Rows.queueFullRow = true := by
 unfold joinedFacts
 exact (dJ (dJ (dJ (dJ (dJ (dJ (dJ (dJ (dJ (dJ (dJ (dJ (dJ (dJ (dJ (dJ (dJ (dJ (dJ (dJ (dJ (dJ (dJ (dJ (dJ (dJ (dJ (dJ (dJ (dJ (dJ KN KO) KP) KQ) KR) KT) KU) KW) KX) KL) IG) II) IJ) IK) IL) IQ) IU) IV) IW) IX) IY) IZ) I4) I5) I7) I8) I9) JA) JB) JC) JD) JE)
end Go.Proofs.YtanonhipicoigaaGreatDoor
