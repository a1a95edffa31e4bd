import Derived.Test.YtanonhipicoigaaGreatDoorRows
import Derived.Test.YtanonhipicoigaaGreatDoorCards
import Derived.Test.YtanonhipicoigaaGreatDoorTie
import Derived.Test.YtanonhipicoigaaGreatDoorZQax
import Derived.Test.YtanonhipicoigaaGreatDoorZQay
import Derived.Test.YtanonhipicoigaaGreatDoorZQaz
import Derived.Test.YtanonhipicoigaaGreatDoorZQba
import Derived.SevenTiedAt
namespace Go.Proofs.YtanonhipicoigaaGreatDoor.queueAgain
open Go
theorem kS : Rows.QueueAgainCardSaid :=
  Claim7.holds_tied_plain_at .later [] [.data, .data, .data, .sentinel, .sentinel] true (true, "cd2a3cefb2b8248c80f84a312be7b7ed93626f4a14baa6a6ae065eb9ed7122ee") true
    over (fun _ h => by cases h) VH (fun _ h => by cases h) queueAgain_row_tie rfl ⟨rfl, rfl⟩ P8 rfl
    (fun f fn hf hfn => by
      obtain rfl : f = 13 := Option.some.inj (MV.symm.trans hf) |>.symm
      obtain rfl : fn = Tryz.f13 := (Option.some.inj (Tryz.func13.symm.trans hfn)).symm
      exact ⟨MS, fun j t ht => by
        rw [Tryz.params13] at ht
        have hm : t ∈ [33, 23] := by simpa using Array.mem_of_getElem? ht
        exact (show Tryz.prog.wantsStandIn t = false by simpa using List.all_eq_true.1 MW t hm)⟩)
    P9
#print axioms kS
end Go.Proofs.YtanonhipicoigaaGreatDoor.queueAgain
namespace Go.Proofs.YtanonhipicoigaaGreatDoor
/-- The card, under a short name, for the claim. -/
theorem queueAgain_holds : Rows.QueueAgainCardSaid := queueAgain.kS
end Go.Proofs.YtanonhipicoigaaGreatDoor
