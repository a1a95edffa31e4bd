import Derived.Test.YtanonhipicoigaaGreatDoorRows
import Derived.Test.YtanonhipicoigaaGreatDoorCards
import Derived.Test.YtanonhipicoigaaGreatDoorTie
import Derived.Test.YtanonhipicoigaaGreatDoorZSaj
import Derived.Test.YtanonhipicoigaaGreatDoorZSak
import Derived.Test.YtanonhipicoigaaGreatDoorZSal
import Derived.Test.YtanonhipicoigaaGreatDoorZSam
import Derived.SevenTiedAt
namespace Go.Proofs.YtanonhipicoigaaGreatDoor.segmentKeeps
open Go
theorem card_over : Rows.SegmentKeepsCardSaid :=
  Claim7.holds_tied_plain_at .later [] [.data, .data, .data, .sentinel, .sentinel] true (true, "cd2a3cefb2b8248c80f84a312be7b7ed93626f4a14baa6a6ae065eb9ed7122ee") true
    over (fun _ h => by cases h) segmentKeepsWf (fun _ h => by cases h) segmentKeeps_row_tie rfl ⟨rfl, rfl⟩ segmentKeepsMain rfl
    (fun f fn hf hfn => by
      obtain rfl : f = 6 := Option.some.inj (segmentKeepsNamed.symm.trans hf) |>.symm
      obtain rfl : fn = Tryz.f6 := (Option.some.inj (Tryz.func6.symm.trans hfn)).symm
      exact ⟨segmentKeepsLooks, fun j t ht => by
        rw [Tryz.params6] at ht
        have hm : t ∈ [3, 22, 9, 3, 3, 23] := by simpa using Array.mem_of_getElem? ht
        exact (show Tryz.prog.wantsStandIn t = false by simpa using List.all_eq_true.1 segmentKeepsStand t hm)⟩)
    segmentKeepsGoes
#print axioms card_over
end Go.Proofs.YtanonhipicoigaaGreatDoor.segmentKeeps
namespace Go.Proofs.YtanonhipicoigaaGreatDoor
/-- The card, under a short name, for the claim. -/
theorem segmentKeeps_holds : Rows.SegmentKeepsCardSaid := segmentKeeps.card_over
end Go.Proofs.YtanonhipicoigaaGreatDoor
