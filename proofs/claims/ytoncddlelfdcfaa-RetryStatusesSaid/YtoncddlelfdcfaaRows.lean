/-
  No cell of these rows narrows 'for every input' (looked for: loops, veiled, ifaces, maps, wideKeys, modest, calm, conditions, laid).
  DERIVED. THE GIVEN ROWS OF THIS SEAT. 4 by the template 'for every input the law returns true; each argument reads behind the call as it read before'; 0 by the template 'total and deterministic' (their statements: YtoncddlelfdcfaaTotals.lean).
  GIVEN WITH THE SEED: the statements are not yours to turn. If you find one false, say at which input.
  Laid BY PROGRAM, IN A SANDBOX (cutbox-rows.mjs): the forced cells as the released guide's own fill.sh prints them over the translation 95fa4b7228f07997… (all of the seat's roots in one cut). By AI agents, Wed Nov 11 2026. No macro, syntax, notation, axiom, sorry.
-/
import Derived.Test.YtoncddlelfdcfaaChecked
import GoSem.Claim
import GoSem.ClaimJoined
import GoSem.ClaimMapViews
import Derived.JoinedTies
import Derived.KernelRfl
namespace Go.Proofs.Ytoncddlelfdcfaa
/- THE CELL 'sum', in the pinned program and in every row, IS THE sha256 OF THE DUMP (.gsa) THAT YtoncddlelfdcfaaProg.lean LOADS. Nothing in Lean hashes anything: it is a label: what it is worth is what the hold of that sum in a sandbox is worth. -/
noncomputable def Try.pinned : Pinned := { name := "ytoncddlelfdcfaa", sum := "95fa4b7228f079973a15882e502af8b128c1ebdf235adc3d0700d35a0afe6629", checked := Try.checked }
namespace Rows
def none {H : Type} : Left H := { results := [], args := [] }

/-- 'penstocklaw17.RetryDoes': WHATEVER THE INPUT: true; the input reads as it did. -/
def retryDoesSpec : ChangeSpec := { name := "retryDoes", fn := fun _ => fun
  | [d1, d2, d3, d4] => { results := [.lit (.bool true)], args := [d1, d2, d3, d4] }
  | _ => none }
def retryDoesRow : OpenClaim := { program := "ytoncddlelfdcfaa", sum := "95fa4b7228f079973a15882e502af8b128c1ebdf235adc3d0700d35a0afe6629", func := "penstock/penstocklaw17.RetryDoes", spec := "retryDoes", apart := false }
def RetryDoesSaid : Prop := retryDoesRow.holds Try.pinned (OpenSpec.ofChange retryDoesSpec)

/-- ITS FALSE NEIGHBOUR: 'it returns false'. Refute it at one input. -/
def retryDoesWrong : ChangeSpec := { name := "retryDoes", fn := fun _ => fun
  | [d1, d2, d3, d4] => { results := [.lit (.bool false)], args := [d1, d2, d3, d4] }
  | _ => none }
def RetryDoesWrongFalsely : Prop := retryDoesRow.holds Try.pinned (OpenSpec.ofChange retryDoesWrong)

/-- 'penstocklaw17.RetryLonger': WHATEVER THE INPUT: true; the input reads as it did. -/
def retryLongerSpec : ChangeSpec := { name := "retryLonger", fn := fun _ => fun
  | [d1, d2] => { results := [.lit (.bool true)], args := [d1, d2] }
  | _ => none }
def retryLongerRow : OpenClaim := { program := "ytoncddlelfdcfaa", sum := "95fa4b7228f079973a15882e502af8b128c1ebdf235adc3d0700d35a0afe6629", func := "penstock/penstocklaw17.RetryLonger", spec := "retryLonger", apart := false }
def RetryLongerSaid : Prop := retryLongerRow.holds Try.pinned (OpenSpec.ofChange retryLongerSpec)

/-- ITS FALSE NEIGHBOUR: 'it returns false'. Refute it at one input. -/
def retryLongerWrong : ChangeSpec := { name := "retryLonger", fn := fun _ => fun
  | [d1, d2] => { results := [.lit (.bool false)], args := [d1, d2] }
  | _ => none }
def RetryLongerWrongFalsely : Prop := retryLongerRow.holds Try.pinned (OpenSpec.ofChange retryLongerWrong)

/-- 'penstocklaw17.RetryEnds': WHATEVER THE INPUT: true; the input reads as it did. -/
def retryEndsSpec : ChangeSpec := { name := "retryEnds", fn := fun _ => fun
  | [d1, d2] => { results := [.lit (.bool true)], args := [d1, d2] }
  | _ => none }
def retryEndsRow : OpenClaim := { program := "ytoncddlelfdcfaa", sum := "95fa4b7228f079973a15882e502af8b128c1ebdf235adc3d0700d35a0afe6629", func := "penstock/penstocklaw17.RetryEnds", spec := "retryEnds", apart := false }
def RetryEndsSaid : Prop := retryEndsRow.holds Try.pinned (OpenSpec.ofChange retryEndsSpec)

/-- ITS FALSE NEIGHBOUR: 'it returns false'. Refute it at one input. -/
def retryEndsWrong : ChangeSpec := { name := "retryEnds", fn := fun _ => fun
  | [d1, d2] => { results := [.lit (.bool false)], args := [d1, d2] }
  | _ => none }
def RetryEndsWrongFalsely : Prop := retryEndsRow.holds Try.pinned (OpenSpec.ofChange retryEndsWrong)

/-- 'penstocklaw17.RetryStatuses': WHATEVER THE INPUT: true; the input reads as it did. -/
def retryStatusesSpec : ChangeSpec := { name := "retryStatuses", fn := fun _ => fun
  | [d1, d2, d3] => { results := [.lit (.bool true)], args := [d1, d2, d3] }
  | _ => none }
def retryStatusesRow : OpenClaim := { program := "ytoncddlelfdcfaa", sum := "95fa4b7228f079973a15882e502af8b128c1ebdf235adc3d0700d35a0afe6629", func := "penstock/penstocklaw17.RetryStatuses", spec := "retryStatuses", apart := false }
def RetryStatusesSaid : Prop := retryStatusesRow.holds Try.pinned (OpenSpec.ofChange retryStatusesSpec)

/-- ITS FALSE NEIGHBOUR: 'it returns false'. Refute it at one input. -/
def retryStatusesWrong : ChangeSpec := { name := "retryStatuses", fn := fun _ => fun
  | [d1, d2, d3] => { results := [.lit (.bool false)], args := [d1, d2, d3] }
  | _ => none }
def RetryStatusesWrongFalsely : Prop := retryStatusesRow.holds Try.pinned (OpenSpec.ofChange retryStatusesWrong)

/- THE SECOND FORM. 'bulk': how many values and letters a reading holds, each counted each time it is reached (what is shared counts as often as it is met; a slice's spare places count too). A statement '..UptoSaid' is the law's where the arguments, and the package variables that the reading takes, are together of bulk at most 1048576: NARROWER than '..Said'. Prove '..Said' where nothing that the law and all that it calls make is longer than what came in: it says more and counts as full. Else prove '..UptoSaid'. A law counts once. -/
mutual
def uptoBulk {H : Type} : DataW H → Nat
  | .lit (.string bytes) => bytes.length + 1
  | .lit _ => 1
  | .nil => 1
  | .ptr d => uptoBulk d + 1
  | .slice elems spare => uptoBulkAll elems + uptoBulkAll spare + 1
  | .agg parts => uptoBulkAll parts + 1
  | .iface _ d => uptoBulk d + 1
  | .map entries => uptoBulkEntries entries + 1
  | .held _ => 1
def uptoBulkAll {H : Type} : List (DataW H) → Nat
  | [] => 0
  | d :: r => uptoBulk d + uptoBulkAll r
def uptoBulkEntries {H : Type} : List (Lit × DataW H) → Nat
  | [] => 0
  | x :: r => uptoBulkEntry x + uptoBulkEntries r
def uptoBulkEntry {H : Type} : Lit × DataW H → Nat
  | (.string bytes, d) => bytes.length + uptoBulk d + 1
  | (_, d) => uptoBulk d + 1
 end
def uptoSmall : (H : Type) → List (DataW H) → Bool := fun _ ds => decide (uptoBulkAll ds ≤ 1048576)
def OpenSpec.upto (s : _root_.Go.ChangeSpec) : _root_.Go.OpenSpec := { _root_.Go.OpenSpec.ofChange s with cond := some uptoSmall }

/-- 'penstocklaw17.RetryDoes', WHERE WHAT IT READS IS OF BULK AT MOST 1048576: true; the input reads as it did. -/
def retryDoesUptoRow : OpenClaim := { program := "ytoncddlelfdcfaa", sum := "95fa4b7228f079973a15882e502af8b128c1ebdf235adc3d0700d35a0afe6629", func := "penstock/penstocklaw17.RetryDoes", spec := "retryDoes", apart := false, narrowed := true }
def RetryDoesUptoSaid : Prop := retryDoesUptoRow.holds Try.pinned (OpenSpec.upto retryDoesSpec)

/-- 'penstocklaw17.RetryLonger', WHERE WHAT IT READS IS OF BULK AT MOST 1048576: true; the input reads as it did. -/
def retryLongerUptoRow : OpenClaim := { program := "ytoncddlelfdcfaa", sum := "95fa4b7228f079973a15882e502af8b128c1ebdf235adc3d0700d35a0afe6629", func := "penstock/penstocklaw17.RetryLonger", spec := "retryLonger", apart := false, narrowed := true }
def RetryLongerUptoSaid : Prop := retryLongerUptoRow.holds Try.pinned (OpenSpec.upto retryLongerSpec)

/-- 'penstocklaw17.RetryEnds', WHERE WHAT IT READS IS OF BULK AT MOST 1048576: true; the input reads as it did. -/
def retryEndsUptoRow : OpenClaim := { program := "ytoncddlelfdcfaa", sum := "95fa4b7228f079973a15882e502af8b128c1ebdf235adc3d0700d35a0afe6629", func := "penstock/penstocklaw17.RetryEnds", spec := "retryEnds", apart := false, narrowed := true }
def RetryEndsUptoSaid : Prop := retryEndsUptoRow.holds Try.pinned (OpenSpec.upto retryEndsSpec)

/-- 'penstocklaw17.RetryStatuses', WHERE WHAT IT READS IS OF BULK AT MOST 1048576: true; the input reads as it did. -/
def retryStatusesUptoRow : OpenClaim := { program := "ytoncddlelfdcfaa", sum := "95fa4b7228f079973a15882e502af8b128c1ebdf235adc3d0700d35a0afe6629", func := "penstock/penstocklaw17.RetryStatuses", spec := "retryStatuses", apart := false, narrowed := true }
def RetryStatusesUptoSaid : Prop := retryStatusesUptoRow.holds Try.pinned (OpenSpec.upto retryStatusesSpec)

end Rows
end Go.Proofs.Ytoncddlelfdcfaa
