import Derived.Test.YtanonhipicoigaaGreatDoorRows
import Derived.Test.YtanonhipicoigaaGreatDoorCards
import Derived.Test.YtanonhipicoigaaGreatDoorTie
import Derived.Test.YtanonhipicoigaaGreatDoorZRaw
import Derived.Test.YtanonhipicoigaaGreatDoorZRax
import Derived.Test.YtanonhipicoigaaGreatDoorZRay
import Derived.Test.YtanonhipicoigaaGreatDoorZRaz
import Derived.SevenTiedAt
namespace Go.Proofs.YtanonhipicoigaaGreatDoor.queueRight
open Go
theorem MJ : Rows.QueueRightCardSaid :=
  Claim7.holds_tied_plain_at .later [] [.data, .data, .data, .sentinel, .sentinel] true (true, "cd2a3cefb2b8248c80f84a312be7b7ed93626f4a14baa6a6ae065eb9ed7122ee") true
    over (fun _ h => by cases h) PD (fun _ h => by cases h) queueRight_row_tie rfl ⟨rfl, rfl⟩ KF rfl
    (fun f fn hf hfn => by
      obtain rfl : f = 15 := Option.some.inj (GL.symm.trans hf) |>.symm
      obtain rfl : fn = Tryz.f15 := (Option.some.inj (Tryz.func15.symm.trans hfn)).symm
      exact ⟨GK, fun j t ht => by
        rw [Tryz.params15] at ht
        have hm : t ∈ [33, 84] := by simpa using Array.mem_of_getElem? ht
        exact (show Tryz.prog.wantsStandIn t = false by simpa using List.all_eq_true.1 GN t hm)⟩)
    KG
#print axioms MJ
end Go.Proofs.YtanonhipicoigaaGreatDoor.queueRight
namespace Go.Proofs.YtanonhipicoigaaGreatDoor
/-- The card, under a short name, for the claim. -/
theorem queueRight_holds : Rows.QueueRightCardSaid := queueRight.MJ
end Go.Proofs.YtanonhipicoigaaGreatDoor
