import Derived.Test.YtanonhipicoigaaG3
namespace Go.Proofs.Ytanonhipicoigaa.T
open Go.RowKit Go.Proofs.YtanonhipicoigaaW.PrintWords Go.Proofs.YtanonhipicoigaaW.PrintLast Go.Proofs.YtanonhipicoigaaW.PrintMore
set_option linter.unusedVariables false
set_option linter.unusedSimpArgs false

/-! ### Files as cells -/
def cells3 (x : S43) : List Value := [.string x.f0, .string x.f1, .int .i64 x.f2]
def cellsOf (l : List S43) : List Value := l.flatMap cells3
theorem cellsOf_nil : cellsOf [] = [] := rfl
theorem cellsOf_cons (x : S43) (l : List S43) : cellsOf (x :: l) = .string x.f0 :: .string x.f1 :: .int .i64 x.f2 :: cellsOf l := rfl
theorem cellsOf_append (a b : List S43) : cellsOf (a ++ b) = cellsOf a ++ cellsOf b := by simp [cellsOf]
theorem cellsOf_length : ∀ l : List S43, (cellsOf l).length = l.length * 3
  | [] => rfl
  | x :: l => by rw [cellsOf_cons]; simp only [List.length_cons]; rw [cellsOf_length l]; omega
theorem cellsOf_take : ∀ (l : List S43) (i : Nat), cellsOf (l.take i) = (cellsOf l).take (i * 3)
  | [], i => by simp [cellsOf]
  | x :: l, 0 => by simp [cellsOf]
  | x :: l, i + 1 => by
    rw [List.take_succ_cons, cellsOf_cons, cellsOf_cons, cellsOf_take l i, show (i + 1) * 3 = i * 3 + 1 + 1 + 1 by omega]
    simp only [List.take_succ_cons]
theorem cellsOf_drop : ∀ (l : List S43) (i : Nat), cellsOf (l.drop i) = (cellsOf l).drop (i * 3)
  | [], i => by simp [cellsOf]
  | x :: l, 0 => by simp
  | x :: l, i + 1 => by
    rw [List.drop_succ_cons, cellsOf_cons, cellsOf_drop l i, show (i + 1) * 3 = i * 3 + 1 + 1 + 1 by omega]
    simp only [List.drop_succ_cons]
theorem cellsOf_set1 : ∀ (l : List S43) (i : Nat) (x : S43) (u : ByteArray), l[i]? = some x → (cellsOf l).set (i * 3 + 1) (.string u) = cellsOf (l.set i ⟨x.f0, u, x.f2⟩)
  | [], i, x, u, h => by simp at h
  | y :: l, 0, x, u, h => by
    obtain rfl : y = x := by simpa using h
    simp [cellsOf_cons]
  | y :: l, i + 1, x, u, h => by
    show _ = cellsOf (y :: l.set i _)
    rw [cellsOf_cons, cellsOf_cons, ← cellsOf_set1 l i x u (by simpa using h), show (i + 1) * 3 + 1 = i * 3 + 1 + 1 + 1 + 1 by omega]
    simp only [List.set_cons_succ]
theorem cellsOf_set2 : ∀ (l : List S43) (i : Nat) (x : S43) (u : Int), l[i]? = some x → (cellsOf l).set (i * 3 + 2) (.int .i64 u) = cellsOf (l.set i ⟨x.f0, x.f1, u⟩)
  | [], i, x, u, h => by simp at h
  | y :: l, 0, x, u, h => by
    obtain rfl : y = x := by simpa using h
    simp [cellsOf_cons]
  | y :: l, i + 1, x, u, h => by
    show _ = cellsOf (y :: l.set i _)
    rw [cellsOf_cons, cellsOf_cons, ← cellsOf_set2 l i x u (by simpa using h), show (i + 1) * 3 + 2 = i * 3 + 2 + 1 + 1 + 1 by omega]
    simp only [List.set_cons_succ]
theorem cellsOf_get : ∀ (l : List S43) (i : Nat) (x : S43), l[i]? = some x → (cellsOf l)[i * 3]? = some (.string x.f0) ∧ (cellsOf l)[i * 3 + 1]? = some (.string x.f1) ∧ (cellsOf l)[i * 3 + 2]? = some (.int .i64 x.f2)
  | [], i, x, h => by simp at h
  | y :: l, 0, x, h => by
    obtain rfl : y = x := by simpa using h
    simp [cellsOf_cons]
  | y :: l, i + 1, x, h => by
    have ih := cellsOf_get l i x (by simpa using h)
    rw [cellsOf_cons, show (i + 1) * 3 = i * 3 + 1 + 1 + 1 by omega]
    simp only [List.getElem?_cons_succ]
    exact ih
theorem cellsOf_one (l : List S43) : ∀ u ∈ cellsOf l, u.oneCell' = true := by
  intro u hu
  simp only [cellsOf, List.mem_flatMap, cells3] at hu
  obtain ⟨x, _, hx⟩ := hu
  simp only [List.mem_cons, List.not_mem_nil, or_false] at hx
  rcases hx with rfl | rfl | rfl <;> rfl

theorem add_plain' (g k j : Nat) : (⟨g, k, none⟩ : Addr).add j = ⟨g, k + j, none⟩ := by unfold Addr.add; split <;> simp_all
theorem k43_sz : k43.sz = 3 := rfl
theorem reps_cells (w : World) (base : Nat) (ok : Nat → Prop) : ∀ l : List S43, Reps (k43.M w base ok) 3 l (cellsOf l) := by
  intro l
  refine ⟨cellsOf_length l, fun j p hj => ?_⟩
  rw [← cellsOf_drop, show ((3 : Nat)) = 1 * 3 from rfl, ← cellsOf_take]
  have hlt : j < l.length := (List.getElem?_eq_some_iff.1 hj).1
  have e : (l.drop j).take 1 = [p] := by
    rw [List.drop_eq_getElem_cons hlt]
    have := (List.getElem?_eq_some_iff.1 hj).2
    simp [this]
  rw [e]
  exact k43_mkM w base ok p
theorem cells_reps {w : World} {base : Nat} {ok : Nat → Prop} : ∀ {l : List S43} {cs : List Value}, Reps (k43.M w base ok) 3 l cs → cs = cellsOf l := by
  intro l
  induction l with
  | nil =>
    intro cs h
    have := h.1
    simp at this
    rw [this]; rfl
  | cons x l ih =>
    intro cs h
    have h0 := k43_openM (h.2 0 x rfl)
    simp only [Nat.zero_mul, List.drop_zero] at h0
    have hl := h.1
    simp only [List.length_cons] at hl
    have h1 : Reps (k43.M w base ok) 3 l (cs.drop 3) := by
      refine ⟨by rw [List.length_drop]; omega, fun j p hj => ?_⟩
      have := h.2 (j + 1) p (by simpa using hj)
      rw [List.drop_drop, show 3 + j * 3 = (j + 1) * 3 by omega]
      exact this
    rw [cellsOf_cons, ← ih h1]
    have e : cs = cs.take 3 ++ cs.drop 3 := (List.take_append_drop 3 cs).symm
    rw [h0] at e
    exact e
theorem own_of_R {w : World} {base : Nat} {ok : Nat → Prop} {v : Value} {l : List S43} (h : Kd.R k43 43 w base ok v l) : w.ownsRow base 43 3 v l.length (cellsOf l) := by
  obtain ⟨_, inner, ho, hr⟩ := h
  rw [← cells_reps hr]
  exact ho
theorem R_of_own {w : World} {base : Nat} {v : Value} {l : List S43} (h : w.ownsRow base 43 3 v l.length (cellsOf l)) : Kd.R k43 43 w base (fun _ => True) v l :=
  ⟨fun _ _ => trivial, cellsOf l, h, reps_cells _ _ _ l⟩
/-- A file's own row: a block of cells. -/
theorem R_block {w : World} {base : Nat} {ok : Nat → Prop} {A : Option Addr} {n c : Nat} {l : List S43} (h : Kd.R k43 43 w base ok (.slice A n c) l) (hne : 0 < l.length) :
    ∃ g cur, A = some ⟨g, 0, none⟩ ∧ n = l.length ∧ base ≤ g ∧ w.heap[g]? = some (.cells cur 43 (0, 0)) ∧ l.length ≤ c ∧ c ≤ maxLen ∧ cur.size = c * 3 ∧ cur.toList.take (l.length * 3) = cellsOf l := by
  obtain ⟨_, h2 | ⟨g, cap, cur, he, hb, hh, h3, h4, h5, h6⟩⟩ := own_of_R h
  · omega
  · injection he with e1 e2 e3
    subst e1 e2 e3
    exact ⟨g, cur, rfl, rfl, hb, hh, h3, h4, h5, h6⟩
theorem R_cell {w : World} {g : Nat} {cur : Array Value} {l : List S43} {j : Nat} {u : Value} (hh : w.heap[g]? = some (.cells cur 43 (0, 0))) (h6 : cur.toList.take (l.length * 3) = cellsOf l) (hj : (cellsOf l)[j]? = some u) :
    w.cell? ⟨g, j, none⟩ = some u := by
  have hlt : j < l.length * 3 := by
    have := (List.getElem?_eq_some_iff.1 hj).1
    rwa [cellsOf_length] at this
  rw [blk_cell hh]
  rw [← h6, List.getElem?_take_of_lt hlt] at hj
  rw [← hj]
  simp
/-- One cell of the row is stored anew. -/
theorem R_put {w : World} {base g c j : Nat} {l l' : List S43} {u : Value} (h : Kd.R k43 43 w base (fun _ => True) (.slice (some ⟨g, 0, none⟩) l.length c) l) (hl : l'.length = l.length) (he : (cellsOf l).set j u = cellsOf l') (hj : j < l.length * 3) :
    Kd.R k43 43 (w.setCell ⟨g, j, none⟩ u) base (fun _ => True) (.slice (some ⟨g, 0, none⟩) l'.length c) l' := by
  obtain ⟨g', cur, hg, _, hb, hh, h3, h4, h5, h6⟩ := R_block h (by omega)
  injection hg with hg
  injection hg with hg
  subst hg
  refine R_of_own ⟨by rw [cellsOf_length], .inr ⟨g, c, cur.setIfInBounds j u, rfl, hb, blk_set hh j u, by omega, h4, by simpa using h5, ?_⟩⟩
  rw [← he, ← h6, hl]
  simp [List.take_set]

theorem there_any (i : Int) (b : Bool) (w : World) : Calls Try.prog 49 #[.int .i64 i, .bool b] w fun e w' => e = .returned (.int .i64 (if b = true then 0 else 7)) ∧ w = w' := by
  cases b
  · go_enter Try.func49, Try.ntmps49
    go_wp2
    go_ret
    exact ⟨rfl, rfl⟩
  · go_enter Try.func49, Try.ntmps49
    go_wp2
    go_ret
    exact ⟨rfl, rfl⟩
theorem enters49 : Enters 49 := fun args w => enters_ Try.func49 (by kernel_rfl) (by kernel_rfl) args w
end Go.Proofs.Ytanonhipicoigaa.T
