import Derived.Test.YtanonhipicoigaaGreatDoorRows
import Derived.Test.YtanonhipicoigaaGreatDoorCards
import Derived.Test.YtanonhipicoigaaGreatDoorTie
import Derived.Test.YtanonhipicoigaaGreatDoorZSbn
import Derived.Test.YtanonhipicoigaaGreatDoorZSbo
import Derived.Test.YtanonhipicoigaaGreatDoorZSbp
import Derived.Test.YtanonhipicoigaaGreatDoorZSbq
import Derived.SevenTiedAt
namespace Go.Proofs.YtanonhipicoigaaGreatDoor.segmentTwins
open Go
theorem card_over : Rows.SegmentTwinsCardSaid :=
  Claim7.holds_tied_plain_at .later [] [.data, .data, .data, .sentinel, .sentinel] true (true, "cd2a3cefb2b8248c80f84a312be7b7ed93626f4a14baa6a6ae065eb9ed7122ee") true
    over (fun _ h => by cases h) segmentTwinsWf (fun _ h => by cases h) segmentTwins_row_tie rfl ⟨rfl, rfl⟩ segmentTwinsMain rfl
    (fun f fn hf hfn => by
      obtain rfl : f = 5 := Option.some.inj (segmentTwinsNamed.symm.trans hf) |>.symm
      obtain rfl : fn = Tryz.f5 := (Option.some.inj (Tryz.func5.symm.trans hfn)).symm
      exact ⟨segmentTwinsLooks, fun j t ht => by
        rw [Tryz.params5] at ht
        have hm : t ∈ [3, 22, 9] := by simpa using Array.mem_of_getElem? ht
        exact (show Tryz.prog.wantsStandIn t = false by simpa using List.all_eq_true.1 segmentTwinsStand t hm)⟩)
    segmentTwinsGoes
#print axioms card_over
end Go.Proofs.YtanonhipicoigaaGreatDoor.segmentTwins
namespace Go.Proofs.YtanonhipicoigaaGreatDoor
/-- The card, under a short name, for the claim. -/
theorem segmentTwins_holds : Rows.SegmentTwinsCardSaid := segmentTwins.card_over
end Go.Proofs.YtanonhipicoigaaGreatDoor
