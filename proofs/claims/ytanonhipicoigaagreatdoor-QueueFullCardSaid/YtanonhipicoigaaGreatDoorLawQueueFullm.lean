import Derived.Test.YtanonhipicoigaaGreatDoorRows
import Derived.Test.YtanonhipicoigaaGreatDoorCards
import Derived.Test.YtanonhipicoigaaGreatDoorTie
import Derived.Test.YtanonhipicoigaaGreatDoorZQbx
import Derived.Test.YtanonhipicoigaaGreatDoorZQby
import Derived.Test.YtanonhipicoigaaGreatDoorZQbz
import Derived.Test.YtanonhipicoigaaGreatDoorZQca
import Derived.SevenTiedAt
namespace Go.Proofs.YtanonhipicoigaaGreatDoor.queueFull
open Go
theorem kS : Rows.QueueFullCardSaid :=
  Claim7.holds_tied_plain_at .later [] [.data, .data, .data, .sentinel, .sentinel] true (true, "cd2a3cefb2b8248c80f84a312be7b7ed93626f4a14baa6a6ae065eb9ed7122ee") true
    over (fun _ h => by cases h) X8 (fun _ h => by cases h) queueFull_row_tie rfl ⟨rfl, rfl⟩ QX rfl
    (fun f fn hf hfn => by
      obtain rfl : f = 11 := Option.some.inj (QD.symm.trans hf) |>.symm
      obtain rfl : fn = Tryz.f11 := (Option.some.inj (Tryz.func11.symm.trans hfn)).symm
      exact ⟨QC, fun j t ht => by
        rw [Tryz.params11] at ht
        have hm : t ∈ [3, 3] := by simpa using Array.mem_of_getElem? ht
        exact (show Tryz.prog.wantsStandIn t = false by simpa using List.all_eq_true.1 QE t hm)⟩)
    QY
#print axioms kS
end Go.Proofs.YtanonhipicoigaaGreatDoor.queueFull
namespace Go.Proofs.YtanonhipicoigaaGreatDoor
/-- The card, under a short name, for the claim. -/
theorem queueFull_holds : Rows.QueueFullCardSaid := queueFull.kS
end Go.Proofs.YtanonhipicoigaaGreatDoor
