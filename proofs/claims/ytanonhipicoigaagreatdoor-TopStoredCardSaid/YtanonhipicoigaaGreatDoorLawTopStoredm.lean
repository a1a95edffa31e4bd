import Derived.Test.YtanonhipicoigaaGreatDoorRows
import Derived.Test.YtanonhipicoigaaGreatDoorCards
import Derived.Test.YtanonhipicoigaaGreatDoorTie
import Derived.Test.YtanonhipicoigaaGreatDoorZTax
import Derived.Test.YtanonhipicoigaaGreatDoorZTay
import Derived.Test.YtanonhipicoigaaGreatDoorZTaz
import Derived.Test.YtanonhipicoigaaGreatDoorZTba
import Derived.SevenTiedAt
namespace Go.Proofs.YtanonhipicoigaaGreatDoor.topStored
open Go
theorem NZ : Rows.TopStoredCardSaid :=
  Claim7.holds_tied_plain_at .later [] [.data, .data, .data, .data, .sentinel, .sentinel, .pinned] true (true, "cd2a3cefb2b8248c80f84a312be7b7ed93626f4a14baa6a6ae065eb9ed7122ee") true
    over (fun _ h => by cases h) UL (fun _ h => by cases h) topStored_row_tie rfl ⟨rfl, rfl⟩ MI rfl
    (fun f fn hf hfn => by
      obtain rfl : f = 3 := Option.some.inj (LZ.symm.trans hf) |>.symm
      obtain rfl : fn = Tryz.f3 := (Option.some.inj (Tryz.func3.symm.trans hfn)).symm
      exact ⟨LY, fun j t ht => by
        rw [Tryz.params3] at ht
        have hm : t ∈ [3, 22, 3, 23] := by simpa using Array.mem_of_getElem? ht
        exact (show Tryz.prog.wantsStandIn t = false by simpa using List.all_eq_true.1 L6 t hm)⟩)
    MJ
#print axioms NZ
end Go.Proofs.YtanonhipicoigaaGreatDoor.topStored
namespace Go.Proofs.YtanonhipicoigaaGreatDoor
/-- The card, under a short name, for the claim. -/
theorem topStored_holds : Rows.TopStoredCardSaid := topStored.NZ
end Go.Proofs.YtanonhipicoigaaGreatDoor
