import Derived.Test.YtanonhipicoigaaR0
namespace Go.Proofs.Ytanonhipicoigaa.T
open Go.ChangeShapes Go.WideShapes Go.Deep Go.RowKit Go.Proofs.YtanonhipicoigaaW.PrintWords Go.Proofs.YtanonhipicoigaaW.PrintLast Go.Proofs.YtanonhipicoigaaW.PrintMore
set_option linter.unusedVariables false
set_option linter.unusedSimpArgs false

/-! ### Rows of ints and of steps that come in -/
section
variable {H : Type} {enc : TypeId × Value → H} {w : World} {base : Nat} {held : Bool}
theorem open_ints35 {fuel : Nat} {A : Option Addr} {len cap : Nat} {x : DataW H × List MemPlace} (h : DataW.trod enc Try.prog w base (fun _ => true) held fuel 35 [.slice A len cap] = some x) :
    ∃ l : List Int, len = l.length ∧ len ≤ cap ∧ Kd.C (Kd.int .i64) w A len l := by
  rcases open_slice Try.underlying35 h with h0 | ⟨a, len', cap', m, n, D, Pl, hcs, hb, hl, hm, hmm, hx, hi⟩
  · obtain ⟨h0, _⟩ := h0
    simp only [List.cons.injEq, and_true, Value.slice.injEq] at h0
    obtain ⟨rfl, rfl, rfl⟩ := h0
    exact ⟨[], rfl, Nat.le_refl _, Kd.C_nil _ _⟩
  · simp only [List.cons.injEq, and_true, Value.slice.injEq] at hcs
    obtain ⟨rfl, rfl, rfl⟩ := hcs
    have key : ∀ i, i < len → ∃ p : Int, ∀ j u, [Value.int .i64 p][j]? = some u → w.cell? (a.add (i * 1 + j)) = some u := by
      intro i hi2
      obtain ⟨cs', hc, ht'⟩ := hi i (by rw [hmm]; simp; omega)
      rw [show Try.prog.cellsOf 3 = 1 by kernel_rfl] at hc
      obtain ⟨_, hcl, hat⟩ := World.cells?_some hc
      obtain ⟨s2, q2, _⟩ := DataW.trod_int Try.underlying3 ht'
      subst q2
      refine ⟨s2, fun j u hu => ?_⟩
      have hj : j < 1 := (List.getElem?_eq_some_iff.1 hu).1
      have := hat j hj
      rw [← Go.Deep.add_add, this]
      exact hu
    obtain ⟨l, hll, hq⟩ := list_of len key
    refine ⟨l, hll.symm, hl, hll, by unfold maxLen at hm; omega, fun _ => ⟨a, rfl, fun j p hj => ⟨[.int .i64 p], rfl, rfl, ?_⟩⟩⟩
    exact hq j p hj
theorem open_steps34 {fuel : Nat} {A : Option Addr} {len cap : Nat} {x : DataW H × List MemPlace} (h : DataW.trod enc Try.prog w base (fun _ => true) held fuel 34 [.slice A len cap] = some x) :
    ∃ l : List S38, len = l.length ∧ len ≤ cap ∧ Kd.C k38 w A len l := by
  rcases open_slice Try.underlying34 h with h0 | ⟨a, len', cap', m, n, D, Pl, hcs, hb, hl, hm, hmm, hx, hi⟩
  · obtain ⟨h0, _⟩ := h0
    simp only [List.cons.injEq, and_true, Value.slice.injEq] at h0
    obtain ⟨rfl, rfl, rfl⟩ := h0
    exact ⟨[], rfl, Nat.le_refl _, Kd.C_nil _ _⟩
  · simp only [List.cons.injEq, and_true, Value.slice.injEq] at hcs
    obtain ⟨rfl, rfl, rfl⟩ := hcs
    have key : ∀ i, i < len → ∃ p : S38, ∀ j u, [Value.int .u8 p.f0, Value.string p.f1, Value.string p.f2, Value.int .i64 p.f3][j]? = some u → w.cell? (a.add (i * 4 + j)) = some u := by
      intro i hi2
      obtain ⟨cs', hc, ht'⟩ := hi i (by rw [hmm]; simp; omega)
      rw [show Try.prog.cellsOf 38 = 4 by kernel_rfl] at hc
      obtain ⟨ys, n', hn', hy, hlen, hyl, hf⟩ := DataW.trod_struct Try.underlying38 ht'
      obtain ⟨_, hcl, hat⟩ := World.cells?_some hc
      match cs', hcl with
      | [c0, c1, c2, c3], _ =>
        have e9 : Try.prog.cellsOf 9 = 1 := by kernel_rfl
        have e3 : Try.prog.cellsOf 3 = 1 := by kernel_rfl
        have e36 : Try.prog.cellsOf 36 = 1 := by kernel_rfl
        have h0 : DataW.trod enc Try.prog w base (fun _ => true) held n' 36 (List.take (Try.prog.cellsOf 36) (List.drop 0 [c0, c1, c2, c3])) = ys[0]? := hf 0 _ rfl
        have h1 : DataW.trod enc Try.prog w base (fun _ => true) held n' 9 (List.take (Try.prog.cellsOf 9) (List.drop 1 [c0, c1, c2, c3])) = ys[1]? := hf 1 _ rfl
        have h2 : DataW.trod enc Try.prog w base (fun _ => true) held n' 9 (List.take (Try.prog.cellsOf 9) (List.drop 2 [c0, c1, c2, c3])) = ys[2]? := hf 2 _ rfl
        have h3 : DataW.trod enc Try.prog w base (fun _ => true) held n' 3 (List.take (Try.prog.cellsOf 3) (List.drop 3 [c0, c1, c2, c3])) = ys[3]? := hf 3 _ rfl
        rw [e36] at h0
        rw [e9] at h1 h2
        rw [e3] at h3
        have hy3 : ys.length = 4 := hyl
        rw [List.getElem?_eq_getElem (by omega)] at h0 h1 h2 h3
        obtain ⟨s0, q0, _⟩ := DataW.trod_int Try.underlying36 h0
        obtain ⟨s1, q1, _⟩ := DataW.trod_string Try.underlying9 h1
        obtain ⟨s2, q2, _⟩ := DataW.trod_string Try.underlying9 h2
        obtain ⟨s3, q3, _⟩ := DataW.trod_int Try.underlying3 h3
        obtain rfl : c0 = .int .u8 s0 := by simpa using q0
        obtain rfl : c1 = .string s1 := by simpa using q1
        obtain rfl : c2 = .string s2 := by simpa using q2
        obtain rfl : c3 = .int .i64 s3 := by simpa using q3
        refine ⟨⟨s0, s1, s2, s3⟩, fun j u hu => ?_⟩
        have hj : j < 4 := (List.getElem?_eq_some_iff.1 hu).1
        have := hat j hj
        rw [← Go.Deep.add_add, this]
        exact hu
    obtain ⟨l, hll, hq⟩ := list_of len key
    refine ⟨l, hll.symm, hl, hll, by unfold maxLen at hm; omega, fun _ => ⟨a, rfl, fun j p hj => ⟨_, rfl, k38_mk w p, ?_⟩⟩⟩
    exact hq j p hj
end
end Go.Proofs.Ytanonhipicoigaa.T
