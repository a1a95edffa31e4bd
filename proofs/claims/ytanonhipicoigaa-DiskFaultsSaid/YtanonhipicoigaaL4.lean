import Derived.Test.YtanonhipicoigaaL2
import Derived.Test.YtanonhipicoigaaTx11
namespace Go.Proofs.Ytanonhipicoigaa.T
open Go.RowKit Go.Proofs.YtanonhipicoigaaW.PrintWords Go.Proofs.YtanonhipicoigaaW.PrintLast Go.Proofs.YtanonhipicoigaaW.PrintMore
set_option linter.unusedVariables false
set_option linter.unusedSimpArgs false

/-! ### A crash in plain words -/
theorem right_of_names {l l' : List S43} (h : rightF l = true) (hn : names l' = names l) (ho : ∀ x ∈ l', OkOne x) : rightF l' = true := by
  have h' := (right_iff l).1 h
  refine (right_iff l').2 ⟨by rw [hn]; exact h'.1, ho, ?_⟩
  have : (names l').length = (names l).length := by rw [hn]
  simp only [names, List.length_map] at this
  omega
theorem crash_names (l : List S43) (ks : List Int) : names (crashF l ks) = names l := by
  unfold names crashF
  apply List.ext_getElem?
  intro i
  simp only [List.getElem?_map, List.getElem?_mapIdx]
  cases l[i]? <;> rfl
theorem crash_one {x : S43} (h : OkOne x) (k : Option Int) : OkOne (crash1 x k) ∧ ((crash1 x k).f1.size : Int) = (crash1 x k).f2 := by
  have hr := crashS_range h.2.2.1 h.2.2.2 k
  have h2 := h.2.2.1
  have h1 := h.2.1
  have hs : ((x.f1.extract 0 (crashS x k).toNat).size : Int) = crashS x k := by
    simp only [ByteArray.size_extract]
    omega
  refine ⟨⟨h.1, ?_, ?_, ?_⟩, hs⟩
  · show (x.f1.extract 0 (crashS x k).toNat).size ≤ 262144
    simp only [ByteArray.size_extract]
    omega
  · show 0 ≤ crashS x k
    omega
  · show crashS x k ≤ ((x.f1.extract 0 (crashS x k).toNat).size : Int)
    omega
theorem mem_crash {l : List S43} {ks : List Int} {y : S43} (h : y ∈ crashF l ks) : ∃ (i : Nat) (x : S43), l[i]? = some x ∧ y = crash1 x ks[i]? := by
  obtain ⟨i, hi⟩ := List.getElem?_of_mem h
  simp only [crashF, List.getElem?_mapIdx] at hi
  cases e : l[i]? with
  | none => rw [e] at hi; cases hi
  | some x =>
    rw [e] at hi
    injection hi with hi
    exact ⟨i, x, e, hi.symm⟩
theorem crash_right {l : List S43} (h : rightF l = true) (ks : List Int) : rightF (crashF l ks) = true := by
  refine right_of_names h (crash_names l ks) fun y hy => ?_
  obtain ⟨i, x, hx, rfl⟩ := mem_crash hy
  exact (crash_one (((right_iff l).1 h).2.1 x (List.mem_of_getElem? hx)) _).1
theorem crash_again {x : S43} (h : (x.f1.size : Int) = x.f2) (k : Option Int) : crash1 x k = x := by
  have hS : crashS x k = x.f2 := by
    cases k with
    | none => rfl
    | some v =>
      simp only [crashS, mn, mx]
      split <;> split <;> omega
  unfold crash1
  rw [hS]
  have e : x.f2.toNat = x.f1.size := by omega
  rw [e, ByteArray.extract_zero_size]
theorem crash_twice {l : List S43} (h : rightF l = true) (k1 k2 : List Int) : crashF (crashF l k1) k2 = crashF l k1 := by
  apply List.ext_getElem?
  intro i
  cases e : l[i]? with
  | none =>
    rw [List.getElem?_eq_none (by rw [crashF_length, crashF_length]; exact List.getElem?_eq_none_iff.1 e), List.getElem?_eq_none (by rw [crashF_length]; exact List.getElem?_eq_none_iff.1 e)]
  | some x =>
    have h1 := crashF_get (ks := k1) e
    rw [crashF_get h1, h1, crash_again (crash_one (((right_iff l).1 h).2.1 x (List.mem_of_getElem? e)) _).2]
theorem same_l0 (l : List S43) (dn : Bool) (fu fa : Int) (hl : l.length ≤ 64) : ∀ (f i : Nat), i ≤ l.length → l.length - i < f → penstockref09_Same.l0 f (l.length : Int) (i : Int) l dn fu fa l dn fu fa = some true
  | 0, i, hi, hf => by omega
  | f + 1, i, hi, hf => by
    rw [penstockref09_Same.l0]
    by_cases h : i < l.length
    · rw [if_pos (by omega), if_pos (by omega), if_pos (by omega), if_pos (by omega)]
      have e : wrap64 ((i : Int) + 1) = ((i + 1 : Nat) : Int) := by
        unfold wrap64
        omega
      rw [e]
      simp only [beq_self_eq_true, Bool.not_true, Bool.or_self, Bool.false_eq_true, if_false]
      exact same_l0 l dn fu fa hl f (i + 1) (by omega) (by omega)
    · rw [if_neg (by omega)]
theorem same_refl (l : List S43) (dn : Bool) (fu fa : Int) (hl : l.length ≤ 64) : penstockref09_Same.f 70 l dn fu fa l dn fu fa = some true := by
  unfold penstockref09_Same.f
  rw [if_neg (by simp), if_pos rfl, if_pos rfl, penstockref09_Same.j0, if_neg (by simp)]
  exact same_l0 l dn fu fa hl 69 0 (by omega) (by omega)
end Go.Proofs.Ytanonhipicoigaa.T
