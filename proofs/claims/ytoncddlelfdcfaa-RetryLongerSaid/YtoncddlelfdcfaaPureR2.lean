/- The four statements on retries, over numbers alone: the wait is the first one doubled and clamped, a failure comes to what the rules say, a verdict to what the status means.
Conditions: each number is of its kind, no more. -/
import Derived.Test.YtoncddlelfdcfaaPureR1
import Derived.Test.YtoncddlelfdcfaaRx3
namespace Go.Proofs.Ytoncddlelfdcfaa.R
open Go.RowKit Go.Proofs.YtoncddlelfdcfaaW.PrintWords Go.Proofs.YtoncddlelfdcfaaW.PrintLast Go.Proofs.YtoncddlelfdcfaaW.PrintMore
set_option linter.unusedVariables false
set_option linter.unusedSimpArgs false

/-- The program's failure, of right rules and right arguments. -/
theorem fail_prog (k : Nat) (n s x F M T now : Int) (h : Rt F M T) (h0 : 0 ≤ n) (h1 : n ≤ 1073741824) (h2 : s ≤ now) (h3 : now ≤ 4611686018427387904) (hs : 0 ≤ s) (hT : 0 ≤ T) :
    retry_Fail.f (k + 2) n s x F M T now = some (if 0 < T ∧ now - s + wt F M n.toNat > T then (n, s, x, true, 0) else (n + 1, s, now + wt F M n.toNat, false, 0)) := by
  unfold retry_Fail.f
  rw [right_some _ _ _ h]
  simp only [Option.bind_some, if_true]
  rw [if_neg (by omega), if_neg (by omega), if_neg (by omega), show (decide (now > 4611686018427387904)) = false by simp; omega]
  simp only [retry_Fail.j0]
  rw [if_neg (by decide), wait_prog k F M T n h h0]
  simp only [Option.bind_some]
  have hw1 := wt_le F M n.toNat
  obtain ⟨g1, g2, g3, g4⟩ := h
  have hw2 := wt_ge F M n.toNat g1 g2
  generalize wt F M n.toNat = v at *
  have e1 : IntKind.u64.wrap (now - s) = now - s := u64_in (by omega) (by omega)
  have e2 : IntKind.u64.wrap (now - s + v) = now - s + v := u64_in (by omega) (by omega)
  have e3 : IntKind.u64.wrap (now + v) = now + v := u64_in (by omega) (by omega)
  have e4 : wrap64 (n + 1) = n + 1 := by unfold wrap64; omega
  rw [e1, e2, e3, e4]
  by_cases c : T > 0
  · rw [if_pos c]
    by_cases c2 : now - s + v > T
    · rw [if_pos c2, if_pos ⟨c, c2⟩]
    · rw [if_neg c2, if_neg (fun hh => c2 hh.2)]
  · rw [if_neg c, if_neg (fun hh => c hh.1)]

theorem fail_no (k : Nat) (n s x F M T now : Int) (h : ¬ (Rt F M T ∧ 0 ≤ n ∧ n ≤ 1073741824 ∧ s ≤ now ∧ now ≤ 4611686018427387904)) :
    retry_Fail.f (k + 1) n s x F M T now = some (0, 0, 0, false, 2) := by
  have j : ∀ F' M' T' : Int, retry_Fail.j0 (k + 1) now true n s x F' M' T' = some (0, 0, 0, false, 2) := by
    intro F' M' T'
    simp only [retry_Fail.j0]
    rw [if_pos trivial]
  unfold retry_Fail.f
  by_cases hr : Rt F M T
  · rw [right_some _ _ _ hr]
    simp only [Option.bind_some, if_true]
    by_cases c1 : n < 0
    · rw [if_pos c1]; exact j F M T
    rw [if_neg c1]
    by_cases c2 : n > 1073741824
    · rw [if_pos c2]; exact j F M T
    rw [if_neg c2]
    by_cases c3 : now < s
    · rw [if_pos c3]; exact j F M T
    rw [if_neg c3, show (decide (now > 4611686018427387904)) = true by
      simp
      refine Int.not_le.mp fun hh => h ⟨hr, by omega, by omega, by omega, hh⟩]
    exact j F M T
  · rw [right_none _ _ _ hr]
    simp only [Option.bind_some]
    rw [if_neg (by decide)]
    exact j F M T

end Go.Proofs.Ytoncddlelfdcfaa.R
