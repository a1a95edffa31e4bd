/- The four statements on retries, over numbers alone: the wait is the first one doubled and clamped, a failure comes to what the rules say, a verdict to what the status means.
Conditions: each number is of its kind, no more. -/
import Derived.Test.YtoncddlelfdcfaaPureR3
import Derived.Test.YtoncddlelfdcfaaRx5
namespace Go.Proofs.Ytoncddlelfdcfaa.R
open Go.RowKit Go.Proofs.YtoncddlelfdcfaaW.PrintWords Go.Proofs.YtoncddlelfdcfaaW.PrintLast Go.Proofs.YtoncddlelfdcfaaW.PrintMore
set_option linter.unusedVariables false
set_option linter.unusedSimpArgs false

theorem ref_right_some (F M T : Int) (h : Rt F M T) : penstockref17_Right.f F M T = some true := by
  obtain ⟨h1, h2, h3, h4⟩ := h
  unfold penstockref17_Right.f
  rw [if_pos (by omega), if_pos h2, if_pos h3]
  simp [h4]

theorem ref_right_none (F M T : Int) (h : ¬ Rt F M T) : penstockref17_Right.f F M T = some false := by
  unfold penstockref17_Right.f
  unfold Rt at h
  split
  · split
    · split
      · congr 1
        simp only [decide_eq_false_iff_not]
        omega
      · rfl
    · rfl
  · rfl

theorem ref_loop (F M T n : Int) (h : Rt F M T) (hn : n < 9223372036854775808) (d : Nat) : ∀ (k : Nat) (w i : Int), 0 ≤ i → i ≤ n → 1 ≤ w → w < 2 * M → (n - i ≤ d ∨ M ≤ w * (2 : Int) ^ d) → d < k →
    penstockref17_Wait.l0 k n w i F M T = some (wt w M (n - i).toNat, 0) := by
  obtain ⟨h1, h2, h3, h4⟩ := h
  induction d with
  | zero =>
    intro k w i hi hin hw hw2 hd hk
    obtain ⟨k, rfl⟩ : ∃ m, k = m + 1 := ⟨k - 1, by omega⟩
    simp only [penstockref17_Wait.l0]
    by_cases c : i < n
    · have hM : M ≤ w := by
        rcases hd with hd | hd
        · omega
        · simpa using hd
      rw [if_pos c, if_neg (by omega)]
      have hp := pow_mono2 (show 1 ≤ (n - i).toNat by omega)
      have hp2 : w * (2 : Int) ^ 1 ≤ w * (2 : Int) ^ (n - i).toNat := Int.mul_le_mul_of_nonneg_left hp (by omega)
      have hp3 : w * (2 : Int) ^ 1 = 2 * w := by omega
      unfold wt
      rw [if_pos (by omega : w * (2 : Int) ^ (n - i).toNat > M)]
      by_cases c2 : w > M
      · rw [if_pos c2]
      · rw [if_neg c2, show w = M by omega]
    · rw [if_neg c, show (n - i).toNat = 0 by omega]
      unfold wt
      rw [show w * (2 : Int) ^ 0 = w by simp]
      split <;> rfl
  | succ d ih =>
    intro k w i hi hin hw hw2 hd hk
    obtain ⟨k, rfl⟩ : ∃ m, k = m + 1 := ⟨k - 1, by omega⟩
    simp only [penstockref17_Wait.l0]
    by_cases c : i < n
    · rw [if_pos c]
      have hp := pow_mono2 (show 1 ≤ (n - i).toNat by omega)
      have hp2 : w * (2 : Int) ^ 1 ≤ w * (2 : Int) ^ (n - i).toNat := Int.mul_le_mul_of_nonneg_left hp (by omega)
      have hp3 : w * (2 : Int) ^ 1 = 2 * w := by omega
      by_cases c2 : w < M
      · rw [if_pos c2]
        have e1 : IntKind.u64.wrap (w * 2) = w * 2 := u64_in (by omega) (by omega)
        have e2 : wrap64 (i + 1) = i + 1 := by unfold wrap64; omega
        rw [e1, e2, ih k (w * 2) (i + 1) (by omega) (by omega) (by omega) (by omega) ?_ (by omega)]
        · congr 2
          unfold wt
          have e3 : w * 2 * (2 : Int) ^ (n - (i + 1)).toNat = w * (2 : Int) ^ (n - i).toNat := by
            rw [show (n - i).toNat = (n - (i + 1)).toNat + 1 by omega, Int.pow_succ, Int.mul_assoc, Int.mul_comm 2]
          rw [e3]
        · rcases hd with hd | hd
          · left; omega
          · right
            have e3 : w * 2 * (2 : Int) ^ d = w * (2 : Int) ^ (d + 1) := by
              rw [Int.pow_succ, Int.mul_assoc, Int.mul_comm 2]
            omega
      · rw [if_neg c2]
        unfold wt
        rw [if_pos (by omega : w * (2 : Int) ^ (n - i).toNat > M)]
        by_cases c3 : w > M
        · rw [if_pos c3]
        · rw [if_neg c3, show w = M by omega]
    · rw [if_neg c, show (n - i).toNat = 0 by omega]
      unfold wt
      rw [show w * (2 : Int) ^ 0 = w by simp]
      split <;> rfl

theorem wait_ref (k : Nat) (F M T n : Int) (h : Rt F M T) (hn : 0 ≤ n) (hn2 : n < 9223372036854775808) : penstockref17_Wait.f (k + 55) F M T n = some (wt F M n.toNat, 0) := by
  unfold penstockref17_Wait.f
  rw [ref_right_some _ _ _ h]
  simp only [Option.bind_some, if_true]
  rw [show (decide (n < 0)) = false by simp; omega]
  have g := ref_loop F M T n h hn2 53 (k + 54) F 0 (by omega) hn h.1 (by have := h.1; have := h.2.1; omega) (by
    right
    rw [pow53]
    have := h.1
    have := h.2.2.1
    omega) (by omega)
  rw [show n - 0 = n by omega] at g
  simp only [penstockref17_Wait.j0]
  rw [if_neg (by decide)]
  exact g

theorem wait_ref_no (k : Nat) (F M T n : Int) (h : ¬ (Rt F M T ∧ 0 ≤ n)) : penstockref17_Wait.f (k + 1) F M T n = some (0, 2) := by
  unfold penstockref17_Wait.f
  by_cases hr : Rt F M T
  · rw [ref_right_some _ _ _ hr]
    simp only [Option.bind_some, if_true]
    rw [show (decide (n < 0)) = true by simp; exact Int.not_le.mp fun hh => h ⟨hr, hh⟩]
    simp only [penstockref17_Wait.j0]
    rw [if_pos trivial]
  · rw [ref_right_none _ _ _ hr]
    simp only [Option.bind_some]
    rw [if_neg (by decide)]
    simp only [penstockref17_Wait.j0]
    rw [if_pos trivial]

theorem fail_ref (k : Nat) (n s x F M T now : Int) (h : Rt F M T) (h0 : 0 ≤ n) (h1 : n ≤ 1073741824) (h2 : s ≤ now) (h3 : now ≤ 4611686018427387904) (hs : 0 ≤ s) (hT : 0 ≤ T) :
    penstockref17_Fail.f (k + 56) n s x F M T now = some (if 0 < T ∧ now - s + wt F M n.toNat > T then (n, s, x, true, 0) else (n + 1, s, now + wt F M n.toNat, false, 0)) := by
  unfold penstockref17_Fail.f
  rw [ref_right_some _ _ _ h]
  simp only [Option.bind_some, if_true]
  rw [if_neg (by omega), if_neg (by omega), if_neg (by omega), show (decide (now > 4611686018427387904)) = false by simp; omega]
  have g := wait_ref k F M T n h h0 (by omega)
  simp only [penstockref17_Fail.j0]
  rw [if_neg (by decide), g]
  simp only [Option.bind_some]
  have hw1 := wt_le F M n.toNat
  obtain ⟨g1, g2, g3, g4⟩ := h
  have hw2 := wt_ge F M n.toNat g1 g2
  generalize wt F M n.toNat = v at *
  have e1 : IntKind.u64.wrap (now - s) = now - s := u64_in (by omega) (by omega)
  have e2 : IntKind.u64.wrap (now - s + v) = now - s + v := u64_in (by omega) (by omega)
  have e3 : IntKind.u64.wrap (now + v) = now + v := u64_in (by omega) (by omega)
  have e4 : wrap64 (n + 1) = n + 1 := by unfold wrap64; omega
  rw [e1, e2, e3, e4]
  by_cases c : T = 0
  · rw [if_pos c, if_neg (fun hh => by omega)]
  · rw [if_neg c]
    by_cases c2 : now - s + v > T
    · rw [if_pos c2, if_pos ⟨by omega, c2⟩]
    · rw [if_neg c2, if_neg (fun hh => c2 hh.2)]

theorem fail_ref_no (k : Nat) (n s x F M T now : Int) (h : ¬ (Rt F M T ∧ 0 ≤ n ∧ n ≤ 1073741824 ∧ s ≤ now ∧ now ≤ 4611686018427387904)) :
    penstockref17_Fail.f (k + 1) n s x F M T now = some (0, 0, 0, false, 2) := by
  have j : ∀ F' M' T' : Int, penstockref17_Fail.j0 (k + 1) now true n s x F' M' T' = some (0, 0, 0, false, 2) := by
    intro F' M' T'
    simp only [penstockref17_Fail.j0]
    rw [if_pos trivial]
  unfold penstockref17_Fail.f
  by_cases hr : Rt F M T
  · rw [ref_right_some _ _ _ hr]
    simp only [Option.bind_some, if_true]
    by_cases c1 : n < 0
    · rw [if_pos c1]; exact j F M T
    rw [if_neg c1]
    by_cases c2 : n > 1073741824
    · rw [if_pos c2]; exact j F M T
    rw [if_neg c2]
    by_cases c3 : now < s
    · rw [if_pos c3]; exact j F M T
    rw [if_neg c3, show (decide (now > 4611686018427387904)) = true by
      simp
      refine Int.not_le.mp fun hh => h ⟨hr, by omega, by omega, by omega, hh⟩]
    exact j F M T
  · rw [ref_right_none _ _ _ hr]
    simp only [Option.bind_some]
    rw [if_neg (by decide)]
    exact j F M T

theorem verdict_ref (k : Nat) (s : Int) :
    penstockref17_Verdict.f (k + 1) s = some (if s = 0 ∨ s = 429 ∨ s = 502 ∨ s = 503 ∨ s = 504 then 1 else if 200 ≤ s ∧ s ≤ 299 then 0 else 2) := by
  have j : ∀ b : Bool, penstockref17_Verdict.j0 (k + 1) s b = some (if b = true then 0 else if s = 0 ∨ s = 429 ∨ s = 502 ∨ s = 503 ∨ s = 504 then 1 else 2) := by
    intro b
    simp only [penstockref17_Verdict.j0]
    split
    · rfl
    · by_cases c1 : s = 0
      · rw [if_pos c1, if_pos (by omega)]
      rw [if_neg c1]
      by_cases c2 : s = 429
      · rw [if_pos c2, if_pos (by omega)]
      rw [if_neg c2]
      by_cases c3 : s = 502
      · rw [if_pos c3, if_pos (by omega)]
      rw [if_neg c3]
      by_cases c4 : s = 503
      · rw [if_pos c4, if_pos (by omega)]
      rw [if_neg c4]
      by_cases c5 : s = 504
      · rw [if_pos c5, if_pos (by omega)]
      · rw [if_neg c5, if_neg (by omega)]
  unfold penstockref17_Verdict.f
  by_cases c : s ≥ 200
  · rw [if_pos c, j]
    by_cases c2 : s ≤ 299
    · rw [if_pos (by simpa using c2), if_neg (by omega), if_pos (by omega)]
    · rw [if_neg (by simpa using c2)]
      congr 1
      split
      · rfl
      · rw [if_neg (by omega)]
  · rw [if_neg c, j]
    rw [if_neg (by decide)]
    congr 1
    split
    · rfl
    · rw [if_neg (by omega)]


theorem RetryDoes (s F M T n si x now : Int) (hs : (Lit.int .i64 s).wf = true) (hF : (Lit.int .u64 F).wf = true) (hM : (Lit.int .u64 M).wf = true) (hT : (Lit.int .u64 T).wf = true)
    (hn : (Lit.int .i64 n).wf = true) (hsi : (Lit.int .u64 si).wf = true) (_hx : (Lit.int .u64 x).wf = true) (hnow : (Lit.int .u64 now).wf = true) :
    penstocklaw17_RetryDoes.f 60 s F M T n si x now = some true := by
  have bs := i64_wf hs
  have bF := u64_wf hF
  have bM := u64_wf hM
  have bT := u64_wf hT
  have bn := i64_wf hn
  have bsi := u64_wf hsi
  have bnow := u64_wf hnow
  have hv := verdict_prog 59 s bs
  have hv2 := verdict_ref 59 s
  obtain ⟨p, hp, hp2⟩ : ∃ p, retry_Wait.f 60 F M T n = some p ∧ penstockref17_Wait.f 60 F M T n = some p := by
    by_cases c : Rt F M T ∧ 0 ≤ n
    · exact ⟨_, wait_prog 59 F M T n c.1 c.2, wait_ref 5 F M T n c.1 c.2 bn.2⟩
    · exact ⟨_, wait_no 59 F M T n c, wait_ref_no 59 F M T n c⟩
  obtain ⟨q, hq, hq2⟩ : ∃ q, retry_Fail.f 60 n si x F M T now = some q ∧ penstockref17_Fail.f 60 n si x F M T now = some q := by
    by_cases c : Rt F M T ∧ 0 ≤ n ∧ n ≤ 1073741824 ∧ si ≤ now ∧ now ≤ 4611686018427387904
    · exact ⟨_, fail_prog 58 n si x F M T now c.1 c.2.1 c.2.2.1 c.2.2.2.1 c.2.2.2.2 bsi.1 bT.1, fail_ref 4 n si x F M T now c.1 c.2.1 c.2.2.1 c.2.2.2.1 c.2.2.2.2 bsi.1 bT.1⟩
    · exact ⟨_, fail_no 59 n si x F M T now c, fail_ref_no 59 n si x F M T now c⟩
  unfold penstocklaw17_RetryDoes.f
  rw [hp, hp2, hq, hq2, lives_56, hv, hv2]
  simp

end Go.Proofs.Ytoncddlelfdcfaa.R
