import Derived.Test.YtanonhipicoigaaGreatDoorRows
import Derived.Test.YtanonhipicoigaaGreatDoorCards
import Derived.Test.YtanonhipicoigaaGreatDoorTie
import Derived.Test.YtanonhipicoigaaGreatDoorZSbf
import Derived.Test.YtanonhipicoigaaGreatDoorZSbg
import Derived.Test.YtanonhipicoigaaGreatDoorZSbh
import Derived.Test.YtanonhipicoigaaGreatDoorZSbi
import Derived.SevenTiedAt
namespace Go.Proofs.YtanonhipicoigaaGreatDoor.segmentDrops
open Go
theorem card_over : Rows.SegmentDropsCardSaid :=
  Claim7.holds_tied_plain_at .later [] [.data, .data, .data, .sentinel, .sentinel] true (true, "cd2a3cefb2b8248c80f84a312be7b7ed93626f4a14baa6a6ae065eb9ed7122ee") true
    over (fun _ h => by cases h) segmentDropsWf (fun _ h => by cases h) segmentDrops_row_tie rfl ⟨rfl, rfl⟩ segmentDropsMain rfl
    (fun f fn hf hfn => by
      obtain rfl : f = 9 := Option.some.inj (segmentDropsNamed.symm.trans hf) |>.symm
      obtain rfl : fn = Tryz.f9 := (Option.some.inj (Tryz.func9.symm.trans hfn)).symm
      exact ⟨segmentDropsLooks, fun j t ht => by
        rw [Tryz.params9] at ht
        have hm : t ∈ [3, 22, 28] := by simpa using Array.mem_of_getElem? ht
        exact (show Tryz.prog.wantsStandIn t = false by simpa using List.all_eq_true.1 segmentDropsStand t hm)⟩)
    segmentDropsGoes
#print axioms card_over
end Go.Proofs.YtanonhipicoigaaGreatDoor.segmentDrops
namespace Go.Proofs.YtanonhipicoigaaGreatDoor
/-- The card, under a short name, for the claim. -/
theorem segmentDrops_holds : Rows.SegmentDropsCardSaid := segmentDrops.card_over
end Go.Proofs.YtanonhipicoigaaGreatDoor
