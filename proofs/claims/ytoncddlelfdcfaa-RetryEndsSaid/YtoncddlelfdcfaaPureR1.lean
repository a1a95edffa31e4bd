/- The four statements on retries, over numbers alone: the wait is the first one doubled and clamped, a failure comes to what the rules say, a verdict to what the status means.
Conditions: each number is of its kind, no more. -/
import Derived.Test.YtoncddlelfdcfaaRx2
namespace Go.Proofs.Ytoncddlelfdcfaa.R
open Go.RowKit Go.Proofs.YtoncddlelfdcfaaW.PrintWords Go.Proofs.YtoncddlelfdcfaaW.PrintLast Go.Proofs.YtoncddlelfdcfaaW.PrintMore
set_option linter.unusedVariables false
set_option linter.unusedSimpArgs false

theorem u64_in {n : Int} (h0 : 0 ≤ n) (h1 : n < 18446744073709551616) : IntKind.u64.wrap n = n := by
  simp [IntKind.wrap, IntKind.bits, IntKind.signed]
  omega

theorem u64_wf {n : Int} (h : (Lit.int .u64 n).wf = true) : 0 ≤ n ∧ n < 18446744073709551616 := by
  simp [Lit.wf, IntKind.min, IntKind.max, IntKind.bits, IntKind.signed] at h
  omega

theorem i64_wf {n : Int} (h : (Lit.int .i64 n).wf = true) : -9223372036854775808 ≤ n ∧ n < 9223372036854775808 := by
  simp [Lit.wf, IntKind.min, IntKind.max, IntKind.bits, IntKind.signed] at h
  omega

/-- The rules of a retry as the document has them. -/
def Rt (F M T : Int) : Prop := 1 ≤ F ∧ F ≤ M ∧ M ≤ 9007199254740992 ∧ T ≤ 9007199254740992
/-- The wait behind t tries. -/
def wt (F M : Int) (t : Nat) : Int := if F * (2 : Int) ^ t > M then M else F * (2 : Int) ^ t

theorem pow_pos2 (t : Nat) : (1 : Int) ≤ (2 : Int) ^ t := by
  have := Nat.one_le_two_pow (n := t)
  have e : ((2 ^ t : Nat) : Int) = (2 : Int) ^ t := by simp
  omega

theorem pow_mono2 {a b : Nat} (h : a ≤ b) : (2 : Int) ^ a ≤ (2 : Int) ^ b := by
  have := Nat.pow_le_pow_right (n := 2) (by omega) h
  have e1 : ((2 ^ a : Nat) : Int) = (2 : Int) ^ a := by simp
  have e2 : ((2 ^ b : Nat) : Int) = (2 : Int) ^ b := by simp
  omega

theorem pow53 : (2 : Int) ^ 53 = 9007199254740992 := by decide

theorem right_some (F M T : Int) (h : Rt F M T) : retry_right.f F M T = some true := by
  obtain ⟨h1, h2, h3, h4⟩ := h
  unfold retry_right.f
  rw [if_pos (by omega), if_pos h2]
  congr 1
  simp only [decide_eq_true_eq]
  unfold mx
  split <;> omega

theorem right_none (F M T : Int) (h : ¬ Rt F M T) : retry_right.f F M T = some false := by
  unfold retry_right.f
  unfold Rt at h
  split
  · split
    · congr 1
      simp only [decide_eq_false_iff_not]
      unfold mx
      split <;> omega
    · rfl
  · rfl

theorem wt_ge (F M : Int) (t : Nat) (h1 : 1 ≤ F) (h2 : F ≤ M) : F ≤ wt F M t := by
  have hp := pow_pos2 t
  have : F * 1 ≤ F * (2 : Int) ^ t := Int.mul_le_mul_of_nonneg_left hp (by omega)
  unfold wt
  split <;> omega

theorem wt_le (F M : Int) (t : Nat) : wt F M t ≤ M := by
  unfold wt
  split <;> omega

/-- The program's wait is the doubled first one, clamped. -/
theorem wait_prog (k : Nat) (F M T n : Int) (h : Rt F M T) (hn : 0 ≤ n) : retry_Wait.f (k + 1) F M T n = some (wt F M n.toNat, 0) := by
  unfold retry_Wait.f
  rw [right_some _ _ _ h]
  obtain ⟨h1, h2, h3, h4⟩ := h
  simp only [Option.bind_some, if_true]
  rw [show (decide (n < 0)) = false by simp; omega]
  simp only [retry_Wait.j0]
  rw [if_neg (by decide)]
  obtain ⟨t, rfl⟩ : ∃ t : Nat, n = t := ⟨n.toNat, by omega⟩
  have hmn : mn (t : Int) 53 = ((min t 53 : Nat) : Int) := by unfold mn; split <;> omega
  rw [hmn, if_pos (by omega)]
  simp only [Int.toNat_natCast]
  have hp := pow_pos2 (min t 53)
  have key : F > M / (2 : Int) ^ (min t 53) ↔ F * (2 : Int) ^ (min t 53) > M := Int.ediv_lt_iff_lt_mul (by omega)
  by_cases c : F > M / (2 : Int) ^ (min t 53)
  · rw [if_pos c]
    have c2 := key.mp c
    have c3 : F * (2 : Int) ^ t > M := by
      have := pow_mono2 (show min t 53 ≤ t by omega)
      have : F * (2 : Int) ^ (min t 53) ≤ F * (2 : Int) ^ t := Int.mul_le_mul_of_nonneg_left this (by omega)
      omega
    unfold wt
    rw [if_pos c3]
  · rw [if_neg c]
    have c2 : F * (2 : Int) ^ (min t 53) ≤ M := by
      have := mt key.mpr c
      omega
    have hw : IntKind.u64.wrap (F * (2 : Int) ^ (min t 53)) = F * (2 : Int) ^ (min t 53) := by
      have : 0 ≤ F * (2 : Int) ^ (min t 53) := Int.mul_nonneg (by omega) (by omega)
      exact u64_in this (by omega)
    rw [hw]
    by_cases ht : t ≤ 53
    · rw [show min t 53 = t by omega] at c2 ⊢
      unfold wt
      rw [if_neg (by omega)]
    · rw [show min t 53 = 53 by omega, pow53] at c2
      rw [show min t 53 = 53 by omega, pow53]
      have hF : F = 1 := by omega
      have hM : M = 9007199254740992 := by omega
      subst hF hM
      have hm := pow_mono2 (show 54 ≤ t by omega)
      have e : (2 : Int) ^ 54 = 18014398509481984 := by decide
      have c4 : (1 : Int) * (2 : Int) ^ t > 9007199254740992 := by omega
      unfold wt
      rw [if_pos c4]
      rfl

/-- What is not right is refused. -/
theorem wait_no (k : Nat) (F M T n : Int) (h : ¬ (Rt F M T ∧ 0 ≤ n)) : retry_Wait.f (k + 1) F M T n = some (0, 2) := by
  unfold retry_Wait.f
  by_cases hr : Rt F M T
  · rw [right_some _ _ _ hr]
    simp only [Option.bind_some, if_true]
    rw [show (decide (n < 0)) = true by simp; exact Int.not_le.mp fun hh => h ⟨hr, hh⟩]
    simp only [retry_Wait.j0]
    rw [if_pos trivial]
  · rw [right_none _ _ _ hr]
    simp only [Option.bind_some]
    rw [if_neg (by decide)]
    simp only [retry_Wait.j0]
    rw [if_pos trivial]

end Go.Proofs.Ytoncddlelfdcfaa.R
