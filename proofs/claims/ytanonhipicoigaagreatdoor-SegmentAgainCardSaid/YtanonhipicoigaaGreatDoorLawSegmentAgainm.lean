import Derived.Test.YtanonhipicoigaaGreatDoorRows
import Derived.Test.YtanonhipicoigaaGreatDoorCards
import Derived.Test.YtanonhipicoigaaGreatDoorTie
import Derived.Test.YtanonhipicoigaaGreatDoorZAah
import Derived.Test.YtanonhipicoigaaGreatDoorZAai
import Derived.Test.YtanonhipicoigaaGreatDoorZAaj
import Derived.Test.YtanonhipicoigaaGreatDoorZAak
import Derived.SevenTiedAt
namespace Go.Proofs.YtanonhipicoigaaGreatDoor.segmentAgain
open Go
theorem card_over : Rows.SegmentAgainCardSaid :=
  Claim7.holds_tied_plain_at .later [] [.data, .data, .data, .sentinel, .sentinel] true (true, "cd2a3cefb2b8248c80f84a312be7b7ed93626f4a14baa6a6ae065eb9ed7122ee") true
    over (fun _ h => by cases h) segmentAgainWf (fun _ h => by cases h) segmentAgain_row_tie rfl ⟨rfl, rfl⟩ segmentAgainMain rfl
    (fun f fn hf hfn => by
      obtain rfl : f = 4 := Option.some.inj (segmentAgainNamed.symm.trans hf) |>.symm
      obtain rfl : fn = Tryz.f4 := (Option.some.inj (Tryz.func4.symm.trans hfn)).symm
      exact ⟨segmentAgainLooks, fun j t ht => by
        rw [Tryz.params4] at ht
        have hm : t ∈ [27, 3] := by simpa using Array.mem_of_getElem? ht
        exact (show Tryz.prog.wantsStandIn t = false by simpa using List.all_eq_true.1 segmentAgainStand t hm)⟩)
    segmentAgainGoes
#print axioms card_over
end Go.Proofs.YtanonhipicoigaaGreatDoor.segmentAgain
namespace Go.Proofs.YtanonhipicoigaaGreatDoor
/-- The card, under a short name, for the claim. -/
theorem segmentAgain_holds : Rows.SegmentAgainCardSaid := segmentAgain.card_over
end Go.Proofs.YtanonhipicoigaaGreatDoor
