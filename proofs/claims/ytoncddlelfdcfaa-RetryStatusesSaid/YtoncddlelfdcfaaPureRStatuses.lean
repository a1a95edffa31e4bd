/- The four statements on retries, over numbers alone: the wait is the first one doubled and clamped, a failure comes to what the rules say, a verdict to what the status means.
Conditions: each number is of its kind, no more. -/
import Derived.Test.YtoncddlelfdcfaaPureR3
import Derived.Test.YtoncddlelfdcfaaRx7
namespace Go.Proofs.Ytoncddlelfdcfaa.R
open Go.RowKit Go.Proofs.YtoncddlelfdcfaaW.PrintWords Go.Proofs.YtoncddlelfdcfaaW.PrintLast Go.Proofs.YtoncddlelfdcfaaW.PrintMore
set_option linter.unusedVariables false
set_option linter.unusedSimpArgs false

theorem RetryStatuses (s F M T n : Int) (hs : (Lit.int .i64 s).wf = true) (hF : (Lit.int .u64 F).wf = true) (hM : (Lit.int .u64 M).wf = true) (_hT : (Lit.int .u64 T).wf = true) (_hn : (Lit.int .i64 n).wf = true) :
    penstocklaw17_RetryStatuses.f 60 s F M T n = some true := by
  have bs := i64_wf hs
  have bF := u64_wf hF
  have bM := u64_wf hM
  have hv := verdict_prog 59 s bs
  obtain ⟨p, hp, hp2⟩ : ∃ p, retry_Wait.f 60 F M T n = some p ∧ ((p.2 = 0 ∧ F ≤ p.1 ∧ p.1 ≤ M) ∨ (p.2 = 2 ∧ p.1 = 0)) := by
    by_cases c : Rt F M T ∧ 0 ≤ n
    · exact ⟨_, wait_prog 59 F M T n c.1 c.2, .inl ⟨rfl, wt_ge F M _ c.1.1 c.1.2.1, wt_le F M _⟩⟩
    · exact ⟨_, wait_no 59 F M T n c, .inr ⟨rfl, rfl⟩⟩
  unfold penstocklaw17_RetryStatuses.f
  rw [lives_56, hv, hp]
  simp only [Option.bind_some, if_true]
  have tail : (if p.2 = 0 then (if p.1 ≥ F then (some (decide (p.1 ≤ M))) else (some false)) else (if p.1 = 0 then (some true) else (some false))) = some true := by
    rcases hp2 with ⟨a, b, c⟩ | ⟨a, b⟩
    · rw [if_pos a, if_pos b]
      simp [c]
    · rw [if_neg (by omega), if_pos b]
  rw [tail]
  by_cases c1 : s = 0 ∨ s = 429 ∨ s = 502 ∨ s = 503 ∨ s = 504
  · rw [if_pos c1]
    by_cases c2 : s ≥ 200
    · have : (s < 300) = False := by simp; omega
      have : (s < 429) = False := by simp; omega
      simp [*]
    · simp [c2]
      intro h
      omega
  · rw [if_neg c1]
    by_cases c2 : 200 ≤ s ∧ s ≤ 299
    · have h1 : (s ≥ 200) = True := by simp; omega
      have h2 : (s < 300) = True := by simp; omega
      have h3 : (s ≥ 400) = False := by simp; omega
      simp [h1, h2, h3, c2]
    · rw [if_neg c2]
      by_cases c3 : s ≥ 200
      · have h2 : (s < 300) = False := by simp; omega
        simp [c3, h2]
      · simp [c3]


end Go.Proofs.Ytoncddlelfdcfaa.R
