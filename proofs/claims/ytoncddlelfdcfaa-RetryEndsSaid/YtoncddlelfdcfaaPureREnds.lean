/- The four statements on retries, over numbers alone: the wait is the first one doubled and clamped, a failure comes to what the rules say, a verdict to what the status means.
Conditions: each number is of its kind, no more. -/
import Derived.Test.YtoncddlelfdcfaaPureR3
import Derived.Test.YtoncddlelfdcfaaRx6
namespace Go.Proofs.Ytoncddlelfdcfaa.R
open Go.RowKit Go.Proofs.YtoncddlelfdcfaaW.PrintWords Go.Proofs.YtoncddlelfdcfaaW.PrintLast Go.Proofs.YtoncddlelfdcfaaW.PrintMore
set_option linter.unusedVariables false
set_option linter.unusedSimpArgs false

theorem lives_2100 : penstocklaw17_lives.f 2100 = some true := by decide +kernel

theorem ends_loop (s F M T : Int) (h : Rt F M T) (hs : 0 ≤ s) (hT : 0 ≤ T) (d : Nat) : ∀ (k : Nat) (now i nx : Int), 0 ≤ i → i + d = 2000 → s + i * F ≤ now → (T = 0 ∨ now - s ≤ T) → d + 2 < k →
    penstocklaw17_RetryEnds.l0 k s now i F M T i s nx = some true := by
  have h1 := h.1
  have h2 := h.2.1
  have h3 := h.2.2.1
  have h4 := h.2.2.2
  induction d with
  | zero =>
    intro k now i nx hi hd hn hT2 hk
    obtain ⟨k, rfl⟩ : ∃ m, k = m + 1 := ⟨k - 1, by omega⟩
    simp only [penstocklaw17_RetryEnds.l0]
    rw [if_neg (by omega)]
    by_cases c : T = 0
    · rw [if_pos c]
    · rw [if_neg c, if_neg (by omega)]
      have hi2 : i = 2000 := by omega
      subst hi2
      have hq : 2000 ≤ T / F := by
        rw [Int.le_ediv_iff_mul_le (by omega)]
        omega
      have hq2 : T / F ≤ T := Int.ediv_le_self _ hT
      rw [Int.tdiv_eq_ediv_of_nonneg hT]
      have hw : IntKind.u64.wrap (T / F) = T / F := u64_in (by omega) (by omega)
      rw [hw]
      congr 1
      simp only [decide_eq_true_eq]
      omega
  | succ d ih =>
    intro k now i nx hi hd hn hT2 hk
    obtain ⟨k, rfl⟩ : ∃ m, k = m + 1 := ⟨k - 1, by omega⟩
    have hiF : 0 ≤ i * F := Int.mul_nonneg hi (by omega)
    simp only [penstocklaw17_RetryEnds.l0]
    obtain ⟨k, rfl⟩ : ∃ m, k = m + 2 := ⟨k - 2, by omega⟩
    rw [if_pos (by omega)]
    by_cases c : now > 2305843009213693952
    · rw [if_pos c]
    rw [if_neg c, fail_prog k i s nx F M T now h hi (by omega) (by omega) (by omega) hs hT]
    have hw1 := wt_le F M i.toNat
    have hw2 := wt_ge F M i.toNat h1 h2
    simp only [Option.bind_some]
    by_cases c2 : 0 < T ∧ now - s + wt F M i.toNat > T
    · rw [if_pos c2]
      simp only
      rw [if_pos trivial, if_pos trivial, if_neg (by omega)]
      have hw : IntKind.u64.wrap (now - s) = now - s := u64_in (by omega) (by omega)
      rw [hw]
      have hle : i ≤ T / F := by
        rw [Int.le_ediv_iff_mul_le (by omega)]
        omega
      have hq2 : T / F ≤ T := Int.ediv_le_self _ hT
      have e1 : IntKind.u64.wrap (T / F) = T / F := u64_in (by omega) (by omega)
      have e2 : IntKind.u64.wrap (T / F + 1) = T / F + 1 := u64_in (by omega) (by omega)
      have e3 : IntKind.u64.wrap i = i := u64_in (by omega) (by omega)
      rw [Int.tdiv_eq_ediv_of_nonneg hT, e1, e2, e3, if_pos (by simp), if_pos (by omega), if_neg (by omega)]
      congr 1
      simp only [decide_eq_true_eq]
      omega
    · rw [if_neg c2]
      simp only
      have e1 : wrap64 (i + 1) = i + 1 := by unfold wrap64; omega
      rw [if_pos trivial, if_neg (by decide), if_neg (by omega), e1]
      simp only [if_true]
      refine ih (k + 2) _ _ _ (by omega) (by omega) ?_ ?_ (by omega)
      · rw [Int.add_mul]
        omega
      · by_cases c3 : T = 0
        · exact .inl c3
        · exact .inr (by omega)

theorem ends_first (k : Nat) (s F M T : Int) (hs : s ≤ 1152921504606846976) (h : ¬ Rt F M T) : penstocklaw17_RetryEnds.l0 (k + 2) s s 0 F M T 0 s 0 = some true := by
  have hf := fail_no k 0 s 0 F M T s (fun hh => h hh.1)
  rw [show k + 2 = (k + 1) + 1 from rfl]
  generalize k + 1 = m at hf ⊢
  simp only [penstocklaw17_RetryEnds.l0]
  rw [if_pos (by omega), if_neg (by omega), hf]
  simp only [Option.bind_some]
  rw [if_neg (by decide), if_pos trivial]
  unfold Rt at h
  split
  · rfl
  · split
    · rfl
    · split
      · rfl
      · congr 1
        simp only [decide_eq_true_eq]
        omega

theorem RetryEnds (F M T s : Int) (hF : (Lit.int .u64 F).wf = true) (hM : (Lit.int .u64 M).wf = true) (hT : (Lit.int .u64 T).wf = true) (hs : (Lit.int .u64 s).wf = true) :
    penstocklaw17_RetryEnds.f 2100 F M T s = some true := by
  have bF := u64_wf hF
  have bM := u64_wf hM
  have bT := u64_wf hT
  have bs := u64_wf hs
  unfold penstocklaw17_RetryEnds.f
  rw [lives_2100]
  simp only [Option.bind_some, if_true]
  by_cases c : s > 1152921504606846976
  · rw [if_pos c]
  rw [if_neg c]
  by_cases h : Rt F M T
  · exact ends_loop s F M T h bs.1 bT.1 2000 2100 s 0 0 (by omega) (by omega) (by omega) (by omega) (by omega)
  · exact ends_first 2098 s F M T (by omega) h

end Go.Proofs.Ytoncddlelfdcfaa.R
