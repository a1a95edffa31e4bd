import Derived.Test.YtanonhipicoigaaGreatDoorRows
import Derived.Test.YtanonhipicoigaaGreatDoorCards
import Derived.Test.YtanonhipicoigaaGreatDoorTie
import Derived.Test.YtanonhipicoigaaGreatDoorZSar
import Derived.Test.YtanonhipicoigaaGreatDoorZSas
import Derived.Test.YtanonhipicoigaaGreatDoorZSat
import Derived.Test.YtanonhipicoigaaGreatDoorZSau
import Derived.SevenTiedAt
namespace Go.Proofs.YtanonhipicoigaaGreatDoor.segmentWhole
open Go
theorem card_over : Rows.SegmentWholeCardSaid :=
  Claim7.holds_tied_plain_at .later [] [.data, .data, .data, .sentinel, .sentinel] true (true, "cd2a3cefb2b8248c80f84a312be7b7ed93626f4a14baa6a6ae065eb9ed7122ee") true
    over (fun _ h => by cases h) segmentWholeWf (fun _ h => by cases h) segmentWhole_row_tie rfl ⟨rfl, rfl⟩ segmentWholeMain rfl
    (fun f fn hf hfn => by
      obtain rfl : f = 7 := Option.some.inj (segmentWholeNamed.symm.trans hf) |>.symm
      obtain rfl : fn = Tryz.f7 := (Option.some.inj (Tryz.func7.symm.trans hfn)).symm
      exact ⟨segmentWholeLooks, fun j t ht => by
        rw [Tryz.params7] at ht
        have hm : t ∈ [3, 22, 9, 3, 23, 9] := by simpa using Array.mem_of_getElem? ht
        exact (show Tryz.prog.wantsStandIn t = false by simpa using List.all_eq_true.1 segmentWholeStand t hm)⟩)
    segmentWholeGoes
#print axioms card_over
end Go.Proofs.YtanonhipicoigaaGreatDoor.segmentWhole
namespace Go.Proofs.YtanonhipicoigaaGreatDoor
/-- The card, under a short name, for the claim. -/
theorem segmentWhole_holds : Rows.SegmentWholeCardSaid := segmentWhole.card_over
end Go.Proofs.YtanonhipicoigaaGreatDoor
