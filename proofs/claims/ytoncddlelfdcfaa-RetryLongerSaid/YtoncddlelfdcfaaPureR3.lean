/- The four statements on retries, over numbers alone: the wait is the first one doubled and clamped, a failure comes to what the rules say, a verdict to what the status means.
Conditions: each number is of its kind, no more. -/
import Derived.Test.YtoncddlelfdcfaaPureR2
import Derived.Test.YtoncddlelfdcfaaRx4
namespace Go.Proofs.Ytoncddlelfdcfaa.R
open Go.RowKit Go.Proofs.YtoncddlelfdcfaaW.PrintWords Go.Proofs.YtoncddlelfdcfaaW.PrintLast Go.Proofs.YtoncddlelfdcfaaW.PrintMore
set_option linter.unusedVariables false
set_option linter.unusedSimpArgs false

theorem verdict_prog (k : Nat) (s : Int) (hs : -9223372036854775808 ≤ s ∧ s < 9223372036854775808) :
    retry_Verdict.f (k + 1) s = some (if s = 0 ∨ s = 429 ∨ s = 502 ∨ s = 503 ∨ s = 504 then 1 else if 200 ≤ s ∧ s ≤ 299 then 0 else 2) := by
  have j1 : retry_Verdict.j0 (k + 1) s true = some 1 := by simp only [retry_Verdict.j0]; rw [if_pos trivial]
  have j2 : retry_Verdict.j0 (k + 1) s false = some (if 200 ≤ s ∧ s ≤ 299 then 0 else 2) := by
    simp only [retry_Verdict.j0]
    rw [if_neg (by decide)]
    by_cases h0 : 0 ≤ s
    · rw [Int.tdiv_eq_ediv_of_nonneg h0]
      have e : wrap64 (s / 100) = s / 100 := by unfold wrap64; omega
      rw [e]
      by_cases c : s / 100 = 2
      · rw [if_pos c, if_pos (by omega), if_pos (by omega)]
      · rw [if_neg c, if_neg (by omega)]
    · have hle : Int.tdiv s 100 ≤ 0 := by
        have := Int.neg_tdiv (a := -s) (b := 100)
        rw [Int.neg_neg] at this
        rw [this, Int.tdiv_eq_ediv_of_nonneg (by omega)]
        omega
      have hge : -9223372036854775808 ≤ Int.tdiv s 100 := by
        have := Int.neg_tdiv (a := -s) (b := 100)
        rw [Int.neg_neg] at this
        rw [this, Int.tdiv_eq_ediv_of_nonneg (by omega)]
        omega
      have e : wrap64 (Int.tdiv s 100) = Int.tdiv s 100 := by unfold wrap64; omega
      rw [e, if_neg (by omega), if_neg (by omega)]
  unfold retry_Verdict.f
  by_cases c1 : s = 0
  · rw [if_pos c1, if_pos (by omega)]; subst c1; exact j1
  rw [if_neg c1]
  by_cases c2 : s = 429
  · rw [if_pos c2, if_pos (by omega)]; subst c2; exact j1
  rw [if_neg c2]
  by_cases c3 : s = 502
  · rw [if_pos c3, if_pos (by omega)]; subst c3; exact j1
  rw [if_neg c3]
  by_cases c4 : s = 503
  · rw [if_pos c4, if_pos (by omega)]; subst c4; exact j1
  rw [if_neg c4]
  by_cases c5 : s = 504
  · rw [if_pos (by omega)]; subst c5; exact j1
  · rw [if_neg (by omega), show (s == 504) = false by simpa using c5]; exact j2

theorem lives_56 : penstocklaw17_lives.f 60 = some true := by decide +kernel

end Go.Proofs.Ytoncddlelfdcfaa.R
