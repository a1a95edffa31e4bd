import Derived.Test.YtanonhipicoigaaTx0
import Derived.Deep.Slices
import Derived.Deep.Fields
import Derived.ChangeSame
import Derived.Lib.SmallJoins
namespace Go.Proofs.Ytanonhipicoigaa.T
open Go.ChangeShapes Go.WideShapes Go.Deep Go.RowKit Go.Proofs.YtanonhipicoigaaW.PrintWords Go.Proofs.YtanonhipicoigaaW.PrintLast Go.Proofs.YtanonhipicoigaaW.PrintMore
set_option linter.unusedVariables false
set_option linter.unusedSimpArgs false

/-! ### A row of files that comes in -/
theorem list_of {α : Type} {Q : Nat → α → Prop} (n : Nat) (h : ∀ i, i < n → ∃ x, Q i x) : ∃ l : List α, l.length = n ∧ ∀ (i : Nat) (x : α), l[i]? = some x → Q i x := by
  induction n with
  | zero => exact ⟨[], rfl, by simp⟩
  | succ n ih =>
    obtain ⟨l, hl, hq⟩ := ih (fun i hi => h i (by omega))
    obtain ⟨x, hx⟩ := h n (by omega)
    refine ⟨l ++ [x], by simp [hl], fun i y hy => ?_⟩
    rcases Nat.lt_or_ge i n with g | g
    · rw [List.getElem?_append_left (by omega)] at hy
      exact hq i y hy
    · rw [List.getElem?_append_right (by omega)] at hy
      have : i - l.length = 0 := by
        have := (List.getElem?_eq_some_iff.1 hy).1
        simpa using this
      rw [this] at hy
      simp at hy
      subst hy
      obtain rfl : i = n := by omega
      exact hx
section
variable {H : Type} {enc : TypeId × Value → H} {w : World} {base : Nat} {held : Bool}
theorem open_files {fuel : Nat} {v : Value} {x : DataW H × List MemPlace} (h : DataW.trod enc Try.prog w base (fun _ => true) held fuel 22 [v] = some x) :
    ∃ (A : Option Addr) (l : List S43) (c : Nat), v = .slice A l.length c ∧ l.length ≤ c ∧ Kd.C k43 w A l.length l := by
  rcases open_slice Try.underlying22 h with h0 | ⟨a, len, cap, m, n, D, Pl, hcs, hb, hl, hm, hmm, hx, hi⟩
  · obtain ⟨h0, _⟩ := h0
    simp only [List.cons.injEq, and_true] at h0
    exact ⟨none, [], 0, h0, Nat.le_refl _, Kd.C_nil _ _⟩
  · simp only [List.cons.injEq, and_true] at hcs
    subst hcs
    have hone : oneCellFields Try.prog (match Try.prog.underlying 43 with | some (.struct fs) => fs | _ => #[]) = true := by kernel_rfl
    have key : ∀ i, i < len → ∃ p : S43, ∀ j u, [Value.string p.f0, Value.string p.f1, Value.int .i64 p.f2][j]? = some u → w.cell? (a.add (i * 3 + j)) = some u := by
      intro i hi2
      obtain ⟨cs', hc, ht'⟩ := hi i (by rw [hmm]; simp; omega)
      rw [show Try.prog.cellsOf 43 = 3 by kernel_rfl] at hc
      obtain ⟨ys, n', hn', hy, hlen, hyl, hf⟩ := DataW.trod_struct Try.underlying43 ht'
      obtain ⟨_, hcl, hat⟩ := World.cells?_some hc
      match cs', hcl with
      | [c0, c1, c2], _ =>
        have e9 : Try.prog.cellsOf 9 = 1 := by kernel_rfl
        have e3 : Try.prog.cellsOf 3 = 1 := by kernel_rfl
        have h0 : DataW.trod enc Try.prog w base (fun _ => true) held n' 9 (List.take (Try.prog.cellsOf 9) (List.drop 0 [c0, c1, c2])) = ys[0]? := hf 0 _ rfl
        have h1 : DataW.trod enc Try.prog w base (fun _ => true) held n' 9 (List.take (Try.prog.cellsOf 9) (List.drop 1 [c0, c1, c2])) = ys[1]? := hf 1 _ rfl
        have h2 : DataW.trod enc Try.prog w base (fun _ => true) held n' 3 (List.take (Try.prog.cellsOf 3) (List.drop 2 [c0, c1, c2])) = ys[2]? := hf 2 _ rfl
        rw [e9] at h0 h1
        rw [e3] at h2
        have hy3 : ys.length = 3 := hyl
        rw [List.getElem?_eq_getElem (by omega)] at h0 h1 h2
        obtain ⟨s0, q0, _⟩ := DataW.trod_string Try.underlying9 h0
        obtain ⟨s1, q1, _⟩ := DataW.trod_string Try.underlying9 h1
        obtain ⟨s2, q2, _⟩ := DataW.trod_int Try.underlying3 h2
        obtain rfl : c0 = .string s0 := by simpa using q0
        obtain rfl : c1 = .string s1 := by simpa using q1
        obtain rfl : c2 = .int .i64 s2 := by simpa using q2
        refine ⟨⟨s0, s1, s2⟩, fun j u hu => ?_⟩
        have hj : j < 3 := (List.getElem?_eq_some_iff.1 hu).1
        have := hat j hj
        rw [← Go.Deep.add_add, this]
        exact hu
    obtain ⟨l, hll, hq⟩ := list_of len key
    refine ⟨some a, l, cap, by rw [hll], by omega, rfl, by unfold maxLen at hm; omega, fun _ => ⟨a, rfl, fun j p hj => ⟨_, rfl, k43_mk w p, ?_⟩⟩⟩
    exact hq j p hj
end
end Go.Proofs.Ytanonhipicoigaa.T
