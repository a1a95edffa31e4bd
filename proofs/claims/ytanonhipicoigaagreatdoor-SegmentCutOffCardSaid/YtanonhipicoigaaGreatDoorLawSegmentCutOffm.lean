import Derived.Test.YtanonhipicoigaaGreatDoorRows
import Derived.Test.YtanonhipicoigaaGreatDoorCards
import Derived.Test.YtanonhipicoigaaGreatDoorTie
import Derived.Test.YtanonhipicoigaaGreatDoorZSay
import Derived.Test.YtanonhipicoigaaGreatDoorZSaz
import Derived.Test.YtanonhipicoigaaGreatDoorZSba
import Derived.Test.YtanonhipicoigaaGreatDoorZSbb
import Derived.SevenTiedAt
namespace Go.Proofs.YtanonhipicoigaaGreatDoor.segmentCutOff
open Go
theorem card_over : Rows.SegmentCutOffCardSaid :=
  Claim7.holds_tied_plain_at .later [] [.data, .data, .data, .sentinel, .sentinel] true (true, "cd2a3cefb2b8248c80f84a312be7b7ed93626f4a14baa6a6ae065eb9ed7122ee") true
    over (fun _ h => by cases h) segmentCutOffWf (fun _ h => by cases h) segmentCutOff_row_tie rfl ⟨rfl, rfl⟩ segmentCutOffMain rfl
    (fun f fn hf hfn => by
      obtain rfl : f = 8 := Option.some.inj (segmentCutOffNamed.symm.trans hf) |>.symm
      obtain rfl : fn = Tryz.f8 := (Option.some.inj (Tryz.func8.symm.trans hfn)).symm
      exact ⟨segmentCutOffLooks, fun j t ht => by
        rw [Tryz.params8] at ht
        have hm : t ∈ [27, 3, 3, 23] := by simpa using Array.mem_of_getElem? ht
        exact (show Tryz.prog.wantsStandIn t = false by simpa using List.all_eq_true.1 segmentCutOffStand t hm)⟩)
    segmentCutOffGoes
#print axioms card_over
end Go.Proofs.YtanonhipicoigaaGreatDoor.segmentCutOff
namespace Go.Proofs.YtanonhipicoigaaGreatDoor
/-- The card, under a short name, for the claim. -/
theorem segmentCutOff_holds : Rows.SegmentCutOffCardSaid := segmentCutOff.card_over
end Go.Proofs.YtanonhipicoigaaGreatDoor
