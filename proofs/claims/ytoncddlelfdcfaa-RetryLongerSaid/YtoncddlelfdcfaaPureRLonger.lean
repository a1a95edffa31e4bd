/- The four statements on retries, over numbers alone: the wait is the first one doubled and clamped, a failure comes to what the rules say, a verdict to what the status means.
Conditions: each number is of its kind, no more. -/
import Derived.Test.YtoncddlelfdcfaaPureR3
import Derived.Test.YtoncddlelfdcfaaRx8
namespace Go.Proofs.Ytoncddlelfdcfaa.R
open Go.RowKit Go.Proofs.YtoncddlelfdcfaaW.PrintWords Go.Proofs.YtoncddlelfdcfaaW.PrintLast Go.Proofs.YtoncddlelfdcfaaW.PrintMore
set_option linter.unusedVariables false
set_option linter.unusedSimpArgs false

theorem wt_succ (F M : Int) (t : Nat) (h1 : 1 ≤ F) (h2 : F ≤ M) : wt F M t ≤ wt F M (t + 1) ∧ wt F M (t + 1) ≤ 2 * wt F M t := by
  have hp := pow_pos2 t
  have e : F * (2 : Int) ^ (t + 1) = 2 * (F * (2 : Int) ^ t) := by rw [Int.pow_succ, ← Int.mul_assoc, Int.mul_comm _ 2]
  have : F * 1 ≤ F * (2 : Int) ^ t := Int.mul_le_mul_of_nonneg_left hp (by omega)
  unfold wt
  rw [e]
  split <;> split <;> omega

theorem RetryLonger (F M T n : Int) (hF : (Lit.int .u64 F).wf = true) (hM : (Lit.int .u64 M).wf = true) (_hT : (Lit.int .u64 T).wf = true) (hn : (Lit.int .i64 n).wf = true) :
    penstocklaw17_RetryLonger.f 60 F M T n = some true := by
  have bF := u64_wf hF
  have bM := u64_wf hM
  have bn := i64_wf hn
  unfold penstocklaw17_RetryLonger.f
  rw [lives_56]
  simp only [Option.bind_some, if_true]
  by_cases c : n > 1048576
  · rw [if_pos c]
  rw [if_neg c]
  have e : wrap64 (n + 1) = n + 1 := by unfold wrap64; omega
  rw [e]
  by_cases c1 : Rt F M T ∧ 0 ≤ n
  · rw [wait_prog 59 F M T n c1.1 c1.2, wait_prog 59 F M T (n + 1) c1.1 (by omega)]
    obtain ⟨⟨h1, h2, h3, h4⟩, h0⟩ := c1
    have := wt_succ F M n.toNat h1 h2
    rw [show (n + 1).toNat = n.toNat + 1 by omega]
    have a1 := wt_le F M (n.toNat + 1)
    have a2 := wt_ge F M n.toNat h1 h2
    simp only [Option.bind_some]
    rw [if_pos trivial, if_pos trivial, if_pos this.1, if_pos a1, if_pos a2]
    congr 1
    have hw : IntKind.u64.wrap (wt F M (n.toNat + 1) - wt F M n.toNat) = wt F M (n.toNat + 1) - wt F M n.toNat := u64_in (by omega) (by omega)
    rw [hw]
    simp only [decide_eq_true_eq]
    omega
  · rw [wait_no 59 F M T n c1]
    simp only [Option.bind_some]
    obtain ⟨p, hp⟩ : ∃ p, retry_Wait.f 60 F M T (n + 1) = some p := by
      by_cases c2 : Rt F M T ∧ 0 ≤ n + 1
      · exact ⟨_, wait_prog 59 F M T (n + 1) c2.1 c2.2⟩
      · exact ⟨_, wait_no 59 F M T (n + 1) c2⟩
    rw [hp]
    simp only [Option.bind_some]
    rw [if_neg (by decide)]
    rfl


end Go.Proofs.Ytoncddlelfdcfaa.R
