import Derived.Test.YtanonhipicoigaaTx0
import Derived.Deep.Slices
import Derived.Deep.Fields
import Derived.ChangeSame
import Derived.Lib.SmallJoins
import Derived.SizedLaws
namespace Go.Proofs.Ytanonhipicoigaa.T
open Go.ChangeShapes Go.WideShapes Go.Deep Go.RowKit Go.Proofs.YtanonhipicoigaaW.PrintWords Go.Proofs.YtanonhipicoigaaW.PrintLast Go.Proofs.YtanonhipicoigaaW.PrintMore
set_option linter.unusedVariables false
set_option linter.unusedSimpArgs false

/-! ### A row of files that comes in -/
theorem list_of {α : Type} {Q : Nat → α → Prop} (n : Nat) (h : ∀ i, i < n → ∃ x, Q i x) : ∃ l : List α, l.length = n ∧ ∀ (i : Nat) (x : α), l[i]? = some x → Q i x := by
  induction n with
  | zero => exact ⟨[], rfl, by simp⟩
  | succ n ih =>
    obtain ⟨l, hl, hq⟩ := ih (fun i hi => h i (by omega))
    obtain ⟨x, hx⟩ := h n (by omega)
    refine ⟨l ++ [x], by simp [hl], fun i y hy => ?_⟩
    rcases Nat.lt_or_ge i n with g | g
    · rw [List.getElem?_append_left (by omega)] at hy
      exact hq i y hy
    · rw [List.getElem?_append_right (by omega)] at hy
      have : i - l.length = 0 := by
        have := (List.getElem?_eq_some_iff.1 hy).1
        simpa using this
      rw [this] at hy
      simp at hy
      subst hy
      obtain rfl : i = n := by omega
      exact hx
section
variable {H : Type} {enc : TypeId × Value → H} {w : World} {base : Nat} {held : Bool}
theorem open_files {fuel : Nat} {v : Value} {x : DataW H × List MemPlace} (h : DataW.trod enc Try.prog w base (fun _ => true) held fuel 22 [v] = some x) :
    ∃ (A : Option Addr) (l : List S43) (c : Nat), v = .slice A l.length c ∧ l.length ≤ c ∧ Kd.C k43 w A l.length l := by
  rcases open_slice Try.underlying22 h with h0 | ⟨a, len, cap, m, n, D, Pl, hcs, hb, hl, hm, hmm, hx, hi⟩
  · obtain ⟨h0, _⟩ := h0
    simp only [List.cons.injEq, and_true] at h0
    exact ⟨none, [], 0, h0, Nat.le_refl _, Kd.C_nil _ _⟩
  · simp only [List.cons.injEq, and_true] at hcs
    subst hcs
    have hone : oneCellFields Try.prog (match Try.prog.underlying 43 with | some (.struct fs) => fs | _ => #[]) = true := by kernel_rfl
    have key : ∀ i, i < len → ∃ p : S43, ∀ j u, [Value.string p.f0, Value.string p.f1, Value.int .i64 p.f2][j]? = some u → w.cell? (a.add (i * 3 + j)) = some u := by
      intro i hi2
      obtain ⟨cs', hc, ht'⟩ := hi i (by rw [hmm]; simp; omega)
      rw [show Try.prog.cellsOf 43 = 3 by kernel_rfl] at hc
      obtain ⟨ys, n', hn', hy, hlen, hyl, hf⟩ := DataW.trod_struct Try.underlying43 ht'
      obtain ⟨_, hcl, hat⟩ := World.cells?_some hc
      match cs', hcl with
      | [c0, c1, c2], _ =>
        have e9 : Try.prog.cellsOf 9 = 1 := by kernel_rfl
        have e3 : Try.prog.cellsOf 3 = 1 := by kernel_rfl
        have h0 : DataW.trod enc Try.prog w base (fun _ => true) held n' 9 (List.take (Try.prog.cellsOf 9) (List.drop 0 [c0, c1, c2])) = ys[0]? := hf 0 _ rfl
        have h1 : DataW.trod enc Try.prog w base (fun _ => true) held n' 9 (List.take (Try.prog.cellsOf 9) (List.drop 1 [c0, c1, c2])) = ys[1]? := hf 1 _ rfl
        have h2 : DataW.trod enc Try.prog w base (fun _ => true) held n' 3 (List.take (Try.prog.cellsOf 3) (List.drop 2 [c0, c1, c2])) = ys[2]? := hf 2 _ rfl
        rw [e9] at h0 h1
        rw [e3] at h2
        have hy3 : ys.length = 3 := hyl
        rw [List.getElem?_eq_getElem (by omega)] at h0 h1 h2
        obtain ⟨s0, q0, _⟩ := DataW.trod_string Try.underlying9 h0
        obtain ⟨s1, q1, _⟩ := DataW.trod_string Try.underlying9 h1
        obtain ⟨s2, q2, _⟩ := DataW.trod_int Try.underlying3 h2
        obtain rfl : c0 = .string s0 := by simpa using q0
        obtain rfl : c1 = .string s1 := by simpa using q1
        obtain rfl : c2 = .int .i64 s2 := by simpa using q2
        refine ⟨⟨s0, s1, s2⟩, fun j u hu => ?_⟩
        have hj : j < 3 := (List.getElem?_eq_some_iff.1 hu).1
        have := hat j hj
        rw [← Go.Deep.add_add, this]
        exact hu
    obtain ⟨l, hll, hq⟩ := list_of len key
    refine ⟨some a, l, cap, by rw [hll], by omega, rfl, by unfold maxLen at hm; omega, fun _ => ⟨a, rfl, fun j p hj => ⟨_, rfl, k43_mk w p, ?_⟩⟩⟩
    exact hq j p hj
end
end Go.Proofs.Ytanonhipicoigaa.T

namespace Go.Proofs.Ytanonhipicoigaa.T
open Go.ChangeShapes Go.WideShapes Go.Deep Go.RowKit Go.Proofs.YtanonhipicoigaaW.PrintWords Go.Proofs.YtanonhipicoigaaW.PrintLast Go.Proofs.YtanonhipicoigaaW.PrintMore
set_option linter.unusedVariables false
set_option linter.unusedSimpArgs false

/-! ### Rows of ints and of steps that come in -/
section
variable {H : Type} {enc : TypeId × Value → H} {w : World} {base : Nat} {held : Bool}
theorem open_ints35 {fuel : Nat} {A : Option Addr} {len cap : Nat} {x : DataW H × List MemPlace} (h : DataW.trod enc Try.prog w base (fun _ => true) held fuel 35 [.slice A len cap] = some x) :
    ∃ l : List Int, len = l.length ∧ len ≤ cap ∧ Kd.C (Kd.int .i64) w A len l := by
  rcases open_slice Try.underlying35 h with h0 | ⟨a, len', cap', m, n, D, Pl, hcs, hb, hl, hm, hmm, hx, hi⟩
  · obtain ⟨h0, _⟩ := h0
    simp only [List.cons.injEq, and_true, Value.slice.injEq] at h0
    obtain ⟨rfl, rfl, rfl⟩ := h0
    exact ⟨[], rfl, Nat.le_refl _, Kd.C_nil _ _⟩
  · simp only [List.cons.injEq, and_true, Value.slice.injEq] at hcs
    obtain ⟨rfl, rfl, rfl⟩ := hcs
    have key : ∀ i, i < len → ∃ p : Int, ∀ j u, [Value.int .i64 p][j]? = some u → w.cell? (a.add (i * 1 + j)) = some u := by
      intro i hi2
      obtain ⟨cs', hc, ht'⟩ := hi i (by rw [hmm]; simp; omega)
      rw [show Try.prog.cellsOf 3 = 1 by kernel_rfl] at hc
      obtain ⟨_, hcl, hat⟩ := World.cells?_some hc
      obtain ⟨s2, q2, _⟩ := DataW.trod_int Try.underlying3 ht'
      subst q2
      refine ⟨s2, fun j u hu => ?_⟩
      have hj : j < 1 := (List.getElem?_eq_some_iff.1 hu).1
      have := hat j hj
      rw [← Go.Deep.add_add, this]
      exact hu
    obtain ⟨l, hll, hq⟩ := list_of len key
    refine ⟨l, hll.symm, hl, hll, by unfold maxLen at hm; omega, fun _ => ⟨a, rfl, fun j p hj => ⟨[.int .i64 p], rfl, rfl, ?_⟩⟩⟩
    exact hq j p hj
theorem open_steps34 {fuel : Nat} {A : Option Addr} {len cap : Nat} {x : DataW H × List MemPlace} (h : DataW.trod enc Try.prog w base (fun _ => true) held fuel 34 [.slice A len cap] = some x) :
    ∃ l : List S38, len = l.length ∧ len ≤ cap ∧ Kd.C k38 w A len l := by
  rcases open_slice Try.underlying34 h with h0 | ⟨a, len', cap', m, n, D, Pl, hcs, hb, hl, hm, hmm, hx, hi⟩
  · obtain ⟨h0, _⟩ := h0
    simp only [List.cons.injEq, and_true, Value.slice.injEq] at h0
    obtain ⟨rfl, rfl, rfl⟩ := h0
    exact ⟨[], rfl, Nat.le_refl _, Kd.C_nil _ _⟩
  · simp only [List.cons.injEq, and_true, Value.slice.injEq] at hcs
    obtain ⟨rfl, rfl, rfl⟩ := hcs
    have key : ∀ i, i < len → ∃ p : S38, ∀ j u, [Value.int .u8 p.f0, Value.string p.f1, Value.string p.f2, Value.int .i64 p.f3][j]? = some u → w.cell? (a.add (i * 4 + j)) = some u := by
      intro i hi2
      obtain ⟨cs', hc, ht'⟩ := hi i (by rw [hmm]; simp; omega)
      rw [show Try.prog.cellsOf 38 = 4 by kernel_rfl] at hc
      obtain ⟨ys, n', hn', hy, hlen, hyl, hf⟩ := DataW.trod_struct Try.underlying38 ht'
      obtain ⟨_, hcl, hat⟩ := World.cells?_some hc
      match cs', hcl with
      | [c0, c1, c2, c3], _ =>
        have e9 : Try.prog.cellsOf 9 = 1 := by kernel_rfl
        have e3 : Try.prog.cellsOf 3 = 1 := by kernel_rfl
        have e36 : Try.prog.cellsOf 36 = 1 := by kernel_rfl
        have h0 : DataW.trod enc Try.prog w base (fun _ => true) held n' 36 (List.take (Try.prog.cellsOf 36) (List.drop 0 [c0, c1, c2, c3])) = ys[0]? := hf 0 _ rfl
        have h1 : DataW.trod enc Try.prog w base (fun _ => true) held n' 9 (List.take (Try.prog.cellsOf 9) (List.drop 1 [c0, c1, c2, c3])) = ys[1]? := hf 1 _ rfl
        have h2 : DataW.trod enc Try.prog w base (fun _ => true) held n' 9 (List.take (Try.prog.cellsOf 9) (List.drop 2 [c0, c1, c2, c3])) = ys[2]? := hf 2 _ rfl
        have h3 : DataW.trod enc Try.prog w base (fun _ => true) held n' 3 (List.take (Try.prog.cellsOf 3) (List.drop 3 [c0, c1, c2, c3])) = ys[3]? := hf 3 _ rfl
        rw [e36] at h0
        rw [e9] at h1 h2
        rw [e3] at h3
        have hy3 : ys.length = 4 := hyl
        rw [List.getElem?_eq_getElem (by omega)] at h0 h1 h2 h3
        obtain ⟨s0, q0, _⟩ := DataW.trod_int Try.underlying36 h0
        obtain ⟨s1, q1, _⟩ := DataW.trod_string Try.underlying9 h1
        obtain ⟨s2, q2, _⟩ := DataW.trod_string Try.underlying9 h2
        obtain ⟨s3, q3, _⟩ := DataW.trod_int Try.underlying3 h3
        obtain rfl : c0 = .int .u8 s0 := by simpa using q0
        obtain rfl : c1 = .string s1 := by simpa using q1
        obtain rfl : c2 = .string s2 := by simpa using q2
        obtain rfl : c3 = .int .i64 s3 := by simpa using q3
        refine ⟨⟨s0, s1, s2, s3⟩, fun j u hu => ?_⟩
        have hj : j < 4 := (List.getElem?_eq_some_iff.1 hu).1
        have := hat j hj
        rw [← Go.Deep.add_add, this]
        exact hu
    obtain ⟨l, hll, hq⟩ := list_of len key
    refine ⟨l, hll.symm, hl, hll, by unfold maxLen at hm; omega, fun _ => ⟨a, rfl, fun j p hj => ⟨_, rfl, k38_mk w p, ?_⟩⟩⟩
    exact hq j p hj
end
end Go.Proofs.Ytanonhipicoigaa.T

namespace Go.Proofs.Ytanonhipicoigaa.T
open Go.ChangeShapes Go.WideShapes Go.Deep Go.RowKit Go.Proofs.YtanonhipicoigaaW.PrintWords Go.Proofs.YtanonhipicoigaaW.PrintLast Go.Proofs.YtanonhipicoigaaW.PrintMore
set_option linter.unusedVariables false
set_option linter.unusedSimpArgs false
section
variable {H : Type} {enc : TypeId × Value → H} {w : World} {base : Nat} {held : Bool}
/-- A row of files that can be is not too long to be copied. -/
theorem files_small {fuel : Nat} {A : Option Addr} {n c : Nat} {x : DataW H × List MemPlace} (h : DataW.trod enc Try.prog w base (fun _ => true) held fuel 22 [.slice A n c] = some x)
    (hs : ∀ k ∈ x.1.weights Try.prog 22, k ≤ reachBytes) : n < 3518437208883 := by
  rcases open_slice Try.underlying22 h with h0 | ⟨a, len, cap, m, nn, D, Pl, hcs, hb, hl, hm, hmm, hx, hi⟩
  · obtain ⟨h0, _⟩ := h0
    simp only [List.cons.injEq, and_true] at h0
    injection h0 with e1 e2 e3
    omega
  · simp only [List.cons.injEq, and_true] at hcs
    injection hcs with e1 e2 e3
    subst e2
    rw [hx] at hs
    have h2 := hs ((n + (m - n)) * Try.prog.bytesOf 43) (by simp [DataW.weights, Try.underlying22])
    rw [show Try.prog.bytesOf 43 = 40 by kernel_rfl] at h2
    have h3 : reachBytes = 0x7ffffffff000 := rfl
    omega
theorem agg_small {ts : List TypeId} {ds : List (DataW H)} {y b c d : DataW H} (hs : (DataW.weightsEach Try.prog ts ds).all (· ≤ reachBytes) = true) (ht : ts[0]? = some 24) (hd : ds[0]? = some (.agg [y, b, c, d])) :
    ∀ k ∈ y.weights Try.prog 22, k ≤ reachBytes := by
  intro k hk
  have h := List.all_eq_true.1 hs k (DataW.weights_mem_each ht hd k (by
    have e : (Go.DataW.agg [y, b, c, d]).weights Try.prog 24 = DataW.weightsEach Try.prog [22, 4, 3, 3] [y, b, c, d] := by
      simp only [DataW.weights, Try.underlying24]
      rfl
    rw [e]
    simp only [DataW.weightsEach, List.mem_append]
    exact Or.inl hk))
  simpa using h
end
end Go.Proofs.Ytanonhipicoigaa.T
