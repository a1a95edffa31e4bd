import Derived.Test.YtanonhipicoigaaGreatDoorRows
import Derived.Test.YtanonhipicoigaaGreatDoorCards
import Derived.Test.YtanonhipicoigaaGreatDoorTie
import Derived.Test.YtanonhipicoigaaGreatDoorZQcj
import Derived.Test.YtanonhipicoigaaGreatDoorZQck
import Derived.Test.YtanonhipicoigaaGreatDoorZQcl
import Derived.Test.YtanonhipicoigaaGreatDoorZQcm
import Derived.SevenTiedAt
namespace Go.Proofs.YtanonhipicoigaaGreatDoor.queueOrder
open Go
theorem kS : Rows.QueueOrderCardSaid :=
  Claim7.holds_tied_plain_at .later [] [.data, .data, .data, .sentinel, .sentinel] true (true, "cd2a3cefb2b8248c80f84a312be7b7ed93626f4a14baa6a6ae065eb9ed7122ee") true
    over (fun _ h => by cases h) VL (fun _ h => by cases h) queueOrder_row_tie rfl ⟨rfl, rfl⟩ QF rfl
    (fun f fn hf hfn => by
      obtain rfl : f = 10 := Option.some.inj (NG.symm.trans hf) |>.symm
      obtain rfl : fn = Tryz.f10 := (Option.some.inj (Tryz.func10.symm.trans hfn)).symm
      exact ⟨ND, fun j t ht => by
        rw [Tryz.params10] at ht
        have hm : t ∈ [3, 3, 22] := by simpa using Array.mem_of_getElem? ht
        exact (show Tryz.prog.wantsStandIn t = false by simpa using List.all_eq_true.1 NH t hm)⟩)
    QG
#print axioms kS
end Go.Proofs.YtanonhipicoigaaGreatDoor.queueOrder
namespace Go.Proofs.YtanonhipicoigaaGreatDoor
/-- The card, under a short name, for the claim. -/
theorem queueOrder_holds : Rows.QueueOrderCardSaid := queueOrder.kS
end Go.Proofs.YtanonhipicoigaaGreatDoor
