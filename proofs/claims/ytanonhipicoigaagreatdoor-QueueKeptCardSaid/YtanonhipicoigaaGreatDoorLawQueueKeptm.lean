import Derived.Test.YtanonhipicoigaaGreatDoorRows
import Derived.Test.YtanonhipicoigaaGreatDoorCards
import Derived.Test.YtanonhipicoigaaGreatDoorTie
import Derived.Test.YtanonhipicoigaaGreatDoorZSaw
import Derived.Test.YtanonhipicoigaaGreatDoorZSax
import Derived.Test.YtanonhipicoigaaGreatDoorZSay
import Derived.Test.YtanonhipicoigaaGreatDoorZSaz
import Derived.SevenTiedAt
namespace Go.Proofs.YtanonhipicoigaaGreatDoor.queueKept
open Go
theorem N9 : Rows.QueueKeptCardSaid :=
  Claim7.holds_tied_plain_at .later [] [.data, .data, .data, .sentinel, .sentinel] true (true, "cd2a3cefb2b8248c80f84a312be7b7ed93626f4a14baa6a6ae065eb9ed7122ee") true
    over (fun _ h => by cases h) TV (fun _ h => by cases h) queueKept_row_tie rfl ⟨rfl, rfl⟩ MK rfl
    (fun f fn hf hfn => by
      obtain rfl : f = 16 := Option.some.inj (LY.symm.trans hf) |>.symm
      obtain rfl : fn = Tryz.f16 := (Option.some.inj (Tryz.func16.symm.trans hfn)).symm
      exact ⟨LX, fun j t ht => by
        rw [Tryz.params16] at ht
        have hm : t ∈ [3, 3, 89, 3, 3, 84, 23] := by simpa using Array.mem_of_getElem? ht
        exact (show Tryz.prog.wantsStandIn t = false by simpa using List.all_eq_true.1 LZ t hm)⟩)
    ML
#print axioms N9
end Go.Proofs.YtanonhipicoigaaGreatDoor.queueKept
namespace Go.Proofs.YtanonhipicoigaaGreatDoor
/-- The card, under a short name, for the claim. -/
theorem queueKept_holds : Rows.QueueKeptCardSaid := queueKept.N9
end Go.Proofs.YtanonhipicoigaaGreatDoor
