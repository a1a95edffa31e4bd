import Derived.Test.YtanonhipicoigaaGreatDoorRows
import Derived.Test.YtanonhipicoigaaGreatDoorCards
import Derived.Test.YtanonhipicoigaaGreatDoorTie
import Derived.Test.YtanonhipicoigaaGreatDoorZQbk
import Derived.Test.YtanonhipicoigaaGreatDoorZQbl
import Derived.Test.YtanonhipicoigaaGreatDoorZQbm
import Derived.Test.YtanonhipicoigaaGreatDoorZQbn
import Derived.SevenTiedAt
namespace Go.Proofs.YtanonhipicoigaaGreatDoor.queueLeases
open Go
theorem kS : Rows.QueueLeasesCardSaid :=
  Claim7.holds_tied_plain_at .later [] [.data, .data, .data, .sentinel, .sentinel] true (true, "cd2a3cefb2b8248c80f84a312be7b7ed93626f4a14baa6a6ae065eb9ed7122ee") true
    over (fun _ h => by cases h) QV (fun _ h => by cases h) queueLeases_row_tie rfl ⟨rfl, rfl⟩ MX rfl
    (fun f fn hf hfn => by
      obtain rfl : f = 12 := Option.some.inj (KI.symm.trans hf) |>.symm
      obtain rfl : fn = Tryz.f12 := (Option.some.inj (Tryz.func12.symm.trans hfn)).symm
      exact ⟨KH, fun j t ht => by
        rw [Tryz.params12] at ht
        have hm : t ∈ [33] := by simpa using Array.mem_of_getElem? ht
        exact (show Tryz.prog.wantsStandIn t = false by simpa using List.all_eq_true.1 KJ t hm)⟩)
    MZ
#print axioms kS
end Go.Proofs.YtanonhipicoigaaGreatDoor.queueLeases
namespace Go.Proofs.YtanonhipicoigaaGreatDoor
/-- The card, under a short name, for the claim. -/
theorem queueLeases_holds : Rows.QueueLeasesCardSaid := queueLeases.kS
end Go.Proofs.YtanonhipicoigaaGreatDoor
