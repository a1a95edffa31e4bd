/-
  DERIVED. GIVEN WITH THE SEED: THE CARDS: each row of YtanonhipicoigaaGreatDoorRows.lean that lists a variable, with what it lists TIED to the program's text (the seventh form; the later family's looks); each row that meets fmt, with fmt's text TOLD by the authors' own Lean function (tested against real Go, not proved from fmt's source: count such statements apart). THE CARD IS WHAT COUNTS. Prove the row's statement (the work); the ties are given (YtanonhipicoigaaGreatDoorTie.lean); close each card by the builder's one call (the guide's Derived/Test/ToyasCard.lean, 'card_holds'). Laid BY PROGRAM, IN A SANDBOX (cutbox-door.mjs). By AI agents, Wed Nov 11 2026. No macro, syntax, notation, axiom, sorry.
-/
import Derived.Test.YtanonhipicoigaaGreatDoorRows
import GoSem.ClaimSeven
namespace Go.Proofs.YtanonhipicoigaaGreatDoor
namespace Rows

/-- THE TIED CARD OF 'penstocktop.TopStored'. -/
def topStoredCard : Claim7 := { stood := { row := topStoredRow, standIns := [], harness := (true, "cd2a3cefb2b8248c80f84a312be7b7ed93626f4a14baa6a6ae065eb9ed7122ee"), looks := true }, kinds := [], alts := [], laidByText := true, laidKinds := [.data, .data, .data, .data, .sentinel, .sentinel, .pinned], laidTests := true, laidLooks := .later }
def TopStoredCardSaid : Prop := Claim7.holds Tryz.pinned (.plain (OpenSpec.ofChange topStoredSpec)) topStoredCard

/-- THE TIED CARD OF 'penstocklaw10.SegmentAgain'. -/
def segmentAgainCard : Claim7 := { stood := { row := segmentAgainRow, standIns := [], harness := (true, "cd2a3cefb2b8248c80f84a312be7b7ed93626f4a14baa6a6ae065eb9ed7122ee"), looks := true }, kinds := [], alts := [], laidByText := true, laidKinds := [.data, .data, .data, .sentinel, .sentinel], laidTests := true, laidLooks := .later }
def SegmentAgainCardSaid : Prop := Claim7.holds Tryz.pinned (.plain (OpenSpec.ofChange segmentAgainSpec)) segmentAgainCard

/-- THE TIED CARD OF 'penstocklaw10.SegmentTwins'. -/
def segmentTwinsCard : Claim7 := { stood := { row := segmentTwinsRow, standIns := [], harness := (true, "cd2a3cefb2b8248c80f84a312be7b7ed93626f4a14baa6a6ae065eb9ed7122ee"), looks := true }, kinds := [], alts := [], laidByText := true, laidKinds := [.data, .data, .data, .sentinel, .sentinel], laidTests := true, laidLooks := .later }
def SegmentTwinsCardSaid : Prop := Claim7.holds Tryz.pinned (.plain (OpenSpec.ofChange segmentTwinsSpec)) segmentTwinsCard

/-- THE TIED CARD OF 'penstocklaw10.SegmentKeeps'. -/
def segmentKeepsCard : Claim7 := { stood := { row := segmentKeepsRow, standIns := [], harness := (true, "cd2a3cefb2b8248c80f84a312be7b7ed93626f4a14baa6a6ae065eb9ed7122ee"), looks := true }, kinds := [], alts := [], laidByText := true, laidKinds := [.data, .data, .data, .sentinel, .sentinel], laidTests := true, laidLooks := .later }
def SegmentKeepsCardSaid : Prop := Claim7.holds Tryz.pinned (.plain (OpenSpec.ofChange segmentKeepsSpec)) segmentKeepsCard

/-- THE TIED CARD OF 'penstocklaw10.SegmentWhole'. -/
def segmentWholeCard : Claim7 := { stood := { row := segmentWholeRow, standIns := [], harness := (true, "cd2a3cefb2b8248c80f84a312be7b7ed93626f4a14baa6a6ae065eb9ed7122ee"), looks := true }, kinds := [], alts := [], laidByText := true, laidKinds := [.data, .data, .data, .sentinel, .sentinel], laidTests := true, laidLooks := .later }
def SegmentWholeCardSaid : Prop := Claim7.holds Tryz.pinned (.plain (OpenSpec.ofChange segmentWholeSpec)) segmentWholeCard

/-- THE TIED CARD OF 'penstocklaw10.SegmentCutOff'. -/
def segmentCutOffCard : Claim7 := { stood := { row := segmentCutOffRow, standIns := [], harness := (true, "cd2a3cefb2b8248c80f84a312be7b7ed93626f4a14baa6a6ae065eb9ed7122ee"), looks := true }, kinds := [], alts := [], laidByText := true, laidKinds := [.data, .data, .data, .sentinel, .sentinel], laidTests := true, laidLooks := .later }
def SegmentCutOffCardSaid : Prop := Claim7.holds Tryz.pinned (.plain (OpenSpec.ofChange segmentCutOffSpec)) segmentCutOffCard

/-- THE TIED CARD OF 'penstocklaw10.SegmentDrops'. -/
def segmentDropsCard : Claim7 := { stood := { row := segmentDropsRow, standIns := [], harness := (true, "cd2a3cefb2b8248c80f84a312be7b7ed93626f4a14baa6a6ae065eb9ed7122ee"), looks := true }, kinds := [], alts := [], laidByText := true, laidKinds := [.data, .data, .data, .sentinel, .sentinel], laidTests := true, laidLooks := .later }
def SegmentDropsCardSaid : Prop := Claim7.holds Tryz.pinned (.plain (OpenSpec.ofChange segmentDropsSpec)) segmentDropsCard

/-- THE TIED CARD OF 'penstocklaw11.QueueOrder'. -/
def queueOrderCard : Claim7 := { stood := { row := queueOrderRow, standIns := [], harness := (true, "cd2a3cefb2b8248c80f84a312be7b7ed93626f4a14baa6a6ae065eb9ed7122ee"), looks := true }, kinds := [], alts := [], laidByText := true, laidKinds := [.data, .data, .data, .sentinel, .sentinel], laidTests := true, laidLooks := .later }
def QueueOrderCardSaid : Prop := Claim7.holds Tryz.pinned (.plain (OpenSpec.ofChange queueOrderSpec)) queueOrderCard

/-- THE TIED CARD OF 'penstocklaw11.QueueFull'. -/
def queueFullCard : Claim7 := { stood := { row := queueFullRow, standIns := [], harness := (true, "cd2a3cefb2b8248c80f84a312be7b7ed93626f4a14baa6a6ae065eb9ed7122ee"), looks := true }, kinds := [], alts := [], laidByText := true, laidKinds := [.data, .data, .data, .sentinel, .sentinel], laidTests := true, laidLooks := .later }
def QueueFullCardSaid : Prop := Claim7.holds Tryz.pinned (.plain (OpenSpec.ofChange queueFullSpec)) queueFullCard

/-- THE TIED CARD OF 'penstocklaw11.QueueLeases'. -/
def queueLeasesCard : Claim7 := { stood := { row := queueLeasesRow, standIns := [], harness := (true, "cd2a3cefb2b8248c80f84a312be7b7ed93626f4a14baa6a6ae065eb9ed7122ee"), looks := true }, kinds := [], alts := [], laidByText := true, laidKinds := [.data, .data, .data, .sentinel, .sentinel], laidTests := true, laidLooks := .later }
def QueueLeasesCardSaid : Prop := Claim7.holds Tryz.pinned (.plain (OpenSpec.ofChange queueLeasesSpec)) queueLeasesCard

/-- THE TIED CARD OF 'penstocklaw11.QueueAgain'. -/
def queueAgainCard : Claim7 := { stood := { row := queueAgainRow, standIns := [], harness := (true, "cd2a3cefb2b8248c80f84a312be7b7ed93626f4a14baa6a6ae065eb9ed7122ee"), looks := true }, kinds := [], alts := [], laidByText := true, laidKinds := [.data, .data, .data, .sentinel, .sentinel], laidTests := true, laidLooks := .later }
def QueueAgainCardSaid : Prop := Claim7.holds Tryz.pinned (.plain (OpenSpec.ofChange queueAgainSpec)) queueAgainCard

/-- THE TIED CARD OF 'penstocklaw11.QueueDoes'. -/
def queueDoesCard : Claim7 := { stood := { row := queueDoesRow, standIns := [], harness := (true, "cd2a3cefb2b8248c80f84a312be7b7ed93626f4a14baa6a6ae065eb9ed7122ee"), looks := true }, kinds := [], alts := [], laidByText := true, laidKinds := [.data, .data, .data, .sentinel, .sentinel], laidTests := true, laidLooks := .later }
def QueueDoesCardSaid : Prop := Claim7.holds Tryz.pinned (.plain (OpenSpec.ofChange queueDoesSpec)) queueDoesCard

/-- THE TIED CARD OF 'penstocklaw11.QueueRight'. -/
def queueRightCard : Claim7 := { stood := { row := queueRightRow, standIns := [], harness := (true, "cd2a3cefb2b8248c80f84a312be7b7ed93626f4a14baa6a6ae065eb9ed7122ee"), looks := true }, kinds := [], alts := [], laidByText := true, laidKinds := [.data, .data, .data, .sentinel, .sentinel], laidTests := true, laidLooks := .later }
def QueueRightCardSaid : Prop := Claim7.holds Tryz.pinned (.plain (OpenSpec.ofChange queueRightSpec)) queueRightCard

/-- THE TIED CARD OF 'penstocklaw11.QueueKept'. -/
def queueKeptCard : Claim7 := { stood := { row := queueKeptRow, standIns := [], harness := (true, "cd2a3cefb2b8248c80f84a312be7b7ed93626f4a14baa6a6ae065eb9ed7122ee"), looks := true }, kinds := [], alts := [], laidByText := true, laidKinds := [.data, .data, .data, .sentinel, .sentinel], laidTests := true, laidLooks := .later }
def QueueKeptCardSaid : Prop := Claim7.holds Tryz.pinned (.plain (OpenSpec.ofChange queueKeptSpec)) queueKeptCard

/-- THE SECOND FORM's CARD OF 'penstocktop.TopStored'. -/
def topStoredUptoCard : Claim7 := { stood := { row := topStoredUptoRow, standIns := [], harness := (true, "cd2a3cefb2b8248c80f84a312be7b7ed93626f4a14baa6a6ae065eb9ed7122ee"), looks := true }, kinds := [], alts := [], laidByText := true, laidKinds := [.data, .data, .data, .data, .sentinel, .sentinel, .pinned], laidTests := true, laidLooks := .later }
def TopStoredUptoCardSaid : Prop := Claim7.holds Tryz.pinned (.plain (OpenSpec.upto topStoredSpec)) topStoredUptoCard

/-- THE SECOND FORM's CARD OF 'penstocklaw10.SegmentAgain'. -/
def segmentAgainUptoCard : Claim7 := { stood := { row := segmentAgainUptoRow, standIns := [], harness := (true, "cd2a3cefb2b8248c80f84a312be7b7ed93626f4a14baa6a6ae065eb9ed7122ee"), looks := true }, kinds := [], alts := [], laidByText := true, laidKinds := [.data, .data, .data, .sentinel, .sentinel], laidTests := true, laidLooks := .later }
def SegmentAgainUptoCardSaid : Prop := Claim7.holds Tryz.pinned (.plain (OpenSpec.upto segmentAgainSpec)) segmentAgainUptoCard

/-- THE SECOND FORM's CARD OF 'penstocklaw10.SegmentTwins'. -/
def segmentTwinsUptoCard : Claim7 := { stood := { row := segmentTwinsUptoRow, standIns := [], harness := (true, "cd2a3cefb2b8248c80f84a312be7b7ed93626f4a14baa6a6ae065eb9ed7122ee"), looks := true }, kinds := [], alts := [], laidByText := true, laidKinds := [.data, .data, .data, .sentinel, .sentinel], laidTests := true, laidLooks := .later }
def SegmentTwinsUptoCardSaid : Prop := Claim7.holds Tryz.pinned (.plain (OpenSpec.upto segmentTwinsSpec)) segmentTwinsUptoCard

/-- THE SECOND FORM's CARD OF 'penstocklaw10.SegmentKeeps'. -/
def segmentKeepsUptoCard : Claim7 := { stood := { row := segmentKeepsUptoRow, standIns := [], harness := (true, "cd2a3cefb2b8248c80f84a312be7b7ed93626f4a14baa6a6ae065eb9ed7122ee"), looks := true }, kinds := [], alts := [], laidByText := true, laidKinds := [.data, .data, .data, .sentinel, .sentinel], laidTests := true, laidLooks := .later }
def SegmentKeepsUptoCardSaid : Prop := Claim7.holds Tryz.pinned (.plain (OpenSpec.upto segmentKeepsSpec)) segmentKeepsUptoCard

/-- THE SECOND FORM's CARD OF 'penstocklaw10.SegmentWhole'. -/
def segmentWholeUptoCard : Claim7 := { stood := { row := segmentWholeUptoRow, standIns := [], harness := (true, "cd2a3cefb2b8248c80f84a312be7b7ed93626f4a14baa6a6ae065eb9ed7122ee"), looks := true }, kinds := [], alts := [], laidByText := true, laidKinds := [.data, .data, .data, .sentinel, .sentinel], laidTests := true, laidLooks := .later }
def SegmentWholeUptoCardSaid : Prop := Claim7.holds Tryz.pinned (.plain (OpenSpec.upto segmentWholeSpec)) segmentWholeUptoCard

/-- THE SECOND FORM's CARD OF 'penstocklaw10.SegmentCutOff'. -/
def segmentCutOffUptoCard : Claim7 := { stood := { row := segmentCutOffUptoRow, standIns := [], harness := (true, "cd2a3cefb2b8248c80f84a312be7b7ed93626f4a14baa6a6ae065eb9ed7122ee"), looks := true }, kinds := [], alts := [], laidByText := true, laidKinds := [.data, .data, .data, .sentinel, .sentinel], laidTests := true, laidLooks := .later }
def SegmentCutOffUptoCardSaid : Prop := Claim7.holds Tryz.pinned (.plain (OpenSpec.upto segmentCutOffSpec)) segmentCutOffUptoCard

/-- THE SECOND FORM's CARD OF 'penstocklaw10.SegmentDrops'. -/
def segmentDropsUptoCard : Claim7 := { stood := { row := segmentDropsUptoRow, standIns := [], harness := (true, "cd2a3cefb2b8248c80f84a312be7b7ed93626f4a14baa6a6ae065eb9ed7122ee"), looks := true }, kinds := [], alts := [], laidByText := true, laidKinds := [.data, .data, .data, .sentinel, .sentinel], laidTests := true, laidLooks := .later }
def SegmentDropsUptoCardSaid : Prop := Claim7.holds Tryz.pinned (.plain (OpenSpec.upto segmentDropsSpec)) segmentDropsUptoCard

/-- THE SECOND FORM's CARD OF 'penstocklaw11.QueueOrder'. -/
def queueOrderUptoCard : Claim7 := { stood := { row := queueOrderUptoRow, standIns := [], harness := (true, "cd2a3cefb2b8248c80f84a312be7b7ed93626f4a14baa6a6ae065eb9ed7122ee"), looks := true }, kinds := [], alts := [], laidByText := true, laidKinds := [.data, .data, .data, .sentinel, .sentinel], laidTests := true, laidLooks := .later }
def QueueOrderUptoCardSaid : Prop := Claim7.holds Tryz.pinned (.plain (OpenSpec.upto queueOrderSpec)) queueOrderUptoCard

/-- THE SECOND FORM's CARD OF 'penstocklaw11.QueueFull'. -/
def queueFullUptoCard : Claim7 := { stood := { row := queueFullUptoRow, standIns := [], harness := (true, "cd2a3cefb2b8248c80f84a312be7b7ed93626f4a14baa6a6ae065eb9ed7122ee"), looks := true }, kinds := [], alts := [], laidByText := true, laidKinds := [.data, .data, .data, .sentinel, .sentinel], laidTests := true, laidLooks := .later }
def QueueFullUptoCardSaid : Prop := Claim7.holds Tryz.pinned (.plain (OpenSpec.upto queueFullSpec)) queueFullUptoCard

/-- THE SECOND FORM's CARD OF 'penstocklaw11.QueueLeases'. -/
def queueLeasesUptoCard : Claim7 := { stood := { row := queueLeasesUptoRow, standIns := [], harness := (true, "cd2a3cefb2b8248c80f84a312be7b7ed93626f4a14baa6a6ae065eb9ed7122ee"), looks := true }, kinds := [], alts := [], laidByText := true, laidKinds := [.data, .data, .data, .sentinel, .sentinel], laidTests := true, laidLooks := .later }
def QueueLeasesUptoCardSaid : Prop := Claim7.holds Tryz.pinned (.plain (OpenSpec.upto queueLeasesSpec)) queueLeasesUptoCard

/-- THE SECOND FORM's CARD OF 'penstocklaw11.QueueAgain'. -/
def queueAgainUptoCard : Claim7 := { stood := { row := queueAgainUptoRow, standIns := [], harness := (true, "cd2a3cefb2b8248c80f84a312be7b7ed93626f4a14baa6a6ae065eb9ed7122ee"), looks := true }, kinds := [], alts := [], laidByText := true, laidKinds := [.data, .data, .data, .sentinel, .sentinel], laidTests := true, laidLooks := .later }
def QueueAgainUptoCardSaid : Prop := Claim7.holds Tryz.pinned (.plain (OpenSpec.upto queueAgainSpec)) queueAgainUptoCard

/-- THE SECOND FORM's CARD OF 'penstocklaw11.QueueDoes'. -/
def queueDoesUptoCard : Claim7 := { stood := { row := queueDoesUptoRow, standIns := [], harness := (true, "cd2a3cefb2b8248c80f84a312be7b7ed93626f4a14baa6a6ae065eb9ed7122ee"), looks := true }, kinds := [], alts := [], laidByText := true, laidKinds := [.data, .data, .data, .sentinel, .sentinel], laidTests := true, laidLooks := .later }
def QueueDoesUptoCardSaid : Prop := Claim7.holds Tryz.pinned (.plain (OpenSpec.upto queueDoesSpec)) queueDoesUptoCard

/-- THE SECOND FORM's CARD OF 'penstocklaw11.QueueRight'. -/
def queueRightUptoCard : Claim7 := { stood := { row := queueRightUptoRow, standIns := [], harness := (true, "cd2a3cefb2b8248c80f84a312be7b7ed93626f4a14baa6a6ae065eb9ed7122ee"), looks := true }, kinds := [], alts := [], laidByText := true, laidKinds := [.data, .data, .data, .sentinel, .sentinel], laidTests := true, laidLooks := .later }
def QueueRightUptoCardSaid : Prop := Claim7.holds Tryz.pinned (.plain (OpenSpec.upto queueRightSpec)) queueRightUptoCard

/-- THE SECOND FORM's CARD OF 'penstocklaw11.QueueKept'. -/
def queueKeptUptoCard : Claim7 := { stood := { row := queueKeptUptoRow, standIns := [], harness := (true, "cd2a3cefb2b8248c80f84a312be7b7ed93626f4a14baa6a6ae065eb9ed7122ee"), looks := true }, kinds := [], alts := [], laidByText := true, laidKinds := [.data, .data, .data, .sentinel, .sentinel], laidTests := true, laidLooks := .later }
def QueueKeptUptoCardSaid : Prop := Claim7.holds Tryz.pinned (.plain (OpenSpec.upto queueKeptSpec)) queueKeptUptoCard
end Rows
end Go.Proofs.YtanonhipicoigaaGreatDoor
