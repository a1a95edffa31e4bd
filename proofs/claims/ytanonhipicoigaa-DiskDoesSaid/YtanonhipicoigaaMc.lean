import Derived.Test.YtanonhipicoigaaMb
import Derived.RegionTactic
import Derived.BigRegion
import Derived.Deep.RegionLaw
import Derived.Lib.SliceRun
namespace Go.Proofs.Ytanonhipicoigaa.T
open Go.RowKit Go.Proofs.YtanonhipicoigaaW.PrintWords Go.Proofs.YtanonhipicoigaaW.PrintLast Go.Proofs.YtanonhipicoigaaW.PrintMore
set_option linter.unusedVariables false
set_option linter.unusedSimpArgs false


/-! ### remove -/
theorem setCells_other (g k : Nat) (hk : k ≠ g) : ∀ (vs : List Value) (o : Nat) (w : World), (w.setCells g o vs).heap[k]? = w.heap[k]?
  | [], _, _ => rfl
  | v :: r, o, w => by
    rw [World.setCells, setCells_other g k hk r (o + 1)]
    exact Below.heap_setCell w ⟨g, o, none⟩ v k hk
theorem setCells_below {B g : Nat} {w : World} (hB : B ≤ g) : ∀ (vs : List Value) (o : Nat) (W : World), Below B w W → Below B w (W.setCells g o vs)
  | [], _, _, h => h
  | v :: r, o, W, h => setCells_below hB r (o + 1) _ (h.setCell hB v)
/-- A row's list where some cells are stored anew. -/
def setL : List Value → Nat → List Value → List Value
  | xs, _, [] => xs
  | xs, o, v :: r => setL (xs.set o v) (o + 1) r
theorem setL_eq : ∀ (vs xs : List Value) (o : Nat), o + vs.length ≤ xs.length → setL xs o vs = xs.take o ++ vs ++ xs.drop (o + vs.length)
  | [], xs, o, h => by simp [setL]
  | v :: r, xs, o, h => by
    simp only [List.length_cons] at h
    rw [setL, setL_eq r (xs.set o v) (o + 1) (by rw [List.length_set]; omega)]
    rw [List.take_set, List.drop_set_of_lt (by omega), List.length_cons, show o + 1 + r.length = o + (r.length + 1) by omega]
    have h1 : (xs.take (o + 1)).set o v = xs.take o ++ [v] := by
      rw [List.take_succ_eq_append_getElem (by omega), List.set_append_right _ _ (by rw [List.length_take]; omega)]
      rw [List.length_take, show o - min o xs.length = 0 by omega]
      rfl
    rw [h1]
    simp
theorem setCells_row (g t : Nat) : ∀ (vs : List Value) (o : Nat) (w : World) (cur : Array Value), w.heap[g]? = some (.cells cur t (0, 0)) → ∃ cur', (w.setCells g o vs).heap[g]? = some (.cells cur' t (0, 0)) ∧ cur'.size = cur.size ∧ cur'.toList = setL cur.toList o vs
  | [], o, w, cur, h => ⟨cur, h, rfl, rfl⟩
  | v :: r, o, w, cur, h => by
    obtain ⟨cur', h1, h2, h3⟩ := setCells_row g t r (o + 1) (w.setCell ⟨g, o, none⟩ v) (cur.setIfInBounds o v) (blk_set h o v)
    exact ⟨cur', h1, by simpa using h2, by rw [h3]; simp [setL]⟩
theorem zero43 (w : World) : (zeroValue 43).run Try.prog w = .ok (.agg #[.string ⟨#[]⟩, .string ⟨#[]⟩, .int .i64 0]) w := by kernel_rfl
theorem run_clear43 (w : World) (ty g o c : Nat) (hc : ∀ j, j < 3 → (w.cell? ⟨g, o + j, none⟩).isSome = true) (hf : ∀ j, j < 3 → w.frozen? ⟨g, o + j, none⟩ = false) :
    (Builtin.clear_ #[22] ty #[.slice (some ⟨g, o, none⟩) 1 c]).run Try.prog w = .ok (.tuple #[]) (w.setCells g o [.string ⟨#[]⟩, .string ⟨#[]⟩, .int .i64 0]) := by
  have hzc : (Builtin.zeroCells (Value.agg #[.string ⟨#[]⟩, .string ⟨#[]⟩, .int .i64 0]).cells 1).toList = [.string ⟨#[]⟩, .string ⟨#[]⟩, .int .i64 0] := by kernel_rfl
  have hst := run_storeCells_cells (P := Try.prog) g o [.string ⟨#[]⟩, .string ⟨#[]⟩, .int .i64 0] 0 w (by simpa using hc) (by simpa using hf) (by intro v hv'; simp at hv'; rcases hv' with rfl | rfl | rfl <;> rfl)
  simp only [Nat.add_zero] at hst
  simp [Builtin.clear_, run_underlying Try.underlying22, zero43, hzc, hst]


set_option maxHeartbeats 8000000 in
set_option maxRecDepth 100000 in
theorem delete_any (w : World) (base : Nat) (l : List S43) (g c : Nat) (i m : Nat) (hl : l.length = i + m + 1) (hn : l.length ≤ 64) (ho : Kd.R k43 43 w base (fun _ => True) (.slice (some ⟨g, 0, none⟩) l.length c) l) :
    Calls Try.prog 54 #[.slice (some ⟨g, 0, none⟩) (i + m + 1) c, .int .i64 (i : Int), .int .i64 ((i : Int) + 1)] w fun e w4 => e = .returned (.slice (some ⟨g, 0, none⟩) (i + m) c) ∧
      Kd.R k43 43 w4 base (fun _ => True) (.slice (some ⟨g, 0, none⟩) (i + m) c) (l.take i ++ l.drop (i + 1)) ∧ Below base w w4 ∧ ∀ k, k ≠ g → w4.heap[k]? = w.heap[k]? := by
  obtain ⟨g', cur, e, _, hg, hh, h3, h4, h5, h6⟩ := R_block ho (by omega)
  injection e with e
  injection e with e
  subst e
  obtain ⟨i0, hi0, hz0, hz1, hz2⟩ := info_parts43
  have hic : i + m + 1 ≤ c := by omega
  have him : i + m + 1 ≤ 64 := by omega
  have hi7 : i ≤ c := by omega
  have hcm : c ≤ 9223372036854775807 := by unfold maxLen at h4; omega
  have hne : ((i : Int) == (i : Int) + 1) = false := by simp; omega
  have HL := Aside0.mk hl
  have HI0 := Aside0.mk hi0
  have HZ1 := Aside0.mk hz1
  have HH := Aside0.mk hh
  have H6 := Aside0.mk h6
  have HG := Aside0.mk hg
  have H5 := Aside0.mk h5
  -- what the row holds behind the move, and behind the clearing
  have hnews : Aside0 ((cellsOf (l.drop (i + 1))).length = m * 3) := ⟨by rw [cellsOf_length, List.length_drop]; omega⟩
  have hspare : Aside0 (∀ j, j < (cellsOf (l.drop (i + 1))).length → (w.drew.cell? ⟨g, 0 + i * 3 + j, none⟩).isSome = true ∧ w.drew.frozen? ⟨g, 0 + i * 3 + j, none⟩ = false) := ⟨fun j hj => by
    rw [hnews.out] at hj
    refine ⟨?_, blk_frozen (blk_drew hh) _⟩
    rw [blk_cell (blk_drew hh), Array.getElem?_eq_getElem (by omega)]
    rfl⟩
  have hcell : Aside0 (∀ j u, (cellsOf (l.drop (i + 1)))[j]? = some u → w.drew.cell? ⟨g, (i + 1) * 3 + j, none⟩ = some u) := ⟨fun j u hu => by
    rw [cellsOf_drop, List.getElem?_drop] at hu
    exact R_cell (blk_drew hh) h6 hu⟩
  clear hl hi0 hz0 hz1 hz2 hh h6 hg h5 h4 h3 ho hn
  have hend : ∀ W : World, W = (w.drew.setCells g (0 + i * 3) (cellsOf (l.drop (i + 1)))) → Aside0 ((∀ j, j < 3 → (W.cell? ⟨g, (i + m) * 3 + j, none⟩).isSome = true) ∧ (∀ j, j < 3 → W.frozen? ⟨g, (i + m) * 3 + j, none⟩ = false) ∧
      Kd.R k43 43 (W.setCells g ((i + m) * 3) [.string ⟨#[]⟩, .string ⟨#[]⟩, .int .i64 0]) base (fun _ => True) (.slice (some ⟨g, 0, none⟩) (i + m) c) (l.take i ++ l.drop (i + 1)) ∧ Below base w (W.setCells g ((i + m) * 3) [.string ⟨#[]⟩, .string ⟨#[]⟩, .int .i64 0]) ∧
      ∀ k, k ≠ g → (W.setCells g ((i + m) * 3) [.string ⟨#[]⟩, .string ⟨#[]⟩, .int .i64 0]).heap[k]? = w.heap[k]?) := by
    rintro W rfl
    obtain ⟨cur1, hc1, hs1, hl1⟩ := setCells_row g 43 (cellsOf (l.drop (i + 1))) (0 + i * 3) w.drew cur (blk_drew HH.out)
    obtain ⟨cur2, hc2, hs2, hl2⟩ := setCells_row g 43 [.string ⟨#[]⟩, .string ⟨#[]⟩, .int .i64 0] ((i + m) * 3) _ cur1 hc1
    have hsz : cur.size = c * 3 := H5.out
    have hct : cur.toList.length = c * 3 := by simpa using hsz
    refine ⟨fun j hj => ?_, fun j hj => blk_frozen hc1 _, ?_, ?_, fun k hk => ?_⟩
    · rw [blk_cell hc1, Array.getElem?_eq_getElem (by omega)]
      rfl
    · have hlen : (l.take i ++ l.drop (i + 1)).length = i + m := by rw [List.length_append, List.length_take, List.length_drop, HL.out]; omega
      refine R_of_own ⟨by rw [cellsOf_length], .inr ⟨g, c, cur2, by rw [hlen], HG.out, hc2, by omega, ?_, by omega, ?_⟩⟩
      · unfold maxLen; omega
      · rw [hl2, hl1, hlen, setL_eq _ _ _ (by
          rw [setL_eq _ _ _ (by rw [hnews.out, hct]; omega)]
          simp [hct, hnews.out]; omega)]
        rw [setL_eq _ _ _ (by rw [hnews.out, hct]; omega), cellsOf_append, cellsOf_take, hnews.out, Nat.zero_add]
        have h6 := H6.out
        have e1 : cur.toList.take (i * 3) = (cellsOf l).take (i * 3) := by rw [← h6, List.take_take]; congr 1; rw [HL.out]; omega
        have e2 : (cur.toList.take (i * 3) ++ cellsOf (l.drop (i + 1))).length = (i + m) * 3 := by rw [List.length_append, List.length_take, hnews.out, hct]; omega
        rw [List.append_assoc, List.take_append_of_le_length (by rw [List.length_take, List.length_append, List.length_append, List.length_take, hnews.out, hct, List.length_drop, hct]; omega)]
        rw [List.take_take, Nat.min_self, List.take_append_of_le_length (by omega), ← e2, List.take_length, e1]
    · exact setCells_below HG.out _ _ _ (setCells_below HG.out _ _ _ (below_drew (Below.refl base w)))
    · rw [setCells_other g k hk, setCells_other g k hk]
      rfl
  have HEND := Aside0.mk hend
  clear hend
  have hclr : ∀ (ty c' : Nat) (W : World), W = (w.drew.setCells g (0 + i * 3) (cellsOf (l.drop (i + 1)))) → (Builtin.clear_ #[22] ty #[.slice (some ⟨g, (i + m) * 3, none⟩) 1 c']).run Try.prog W = .ok (.tuple #[]) (W.setCells g ((i + m) * 3) [.string ⟨#[]⟩, .string ⟨#[]⟩, .int .i64 0]) := fun ty c' W hW =>
    run_clear43 W ty g ((i + m) * 3) c' ((HEND.out W hW).out.1) ((HEND.out W hW).out.2.1)
  have HCLR := Aside0.mk hclr
  clear hclr
  by_cases hci : c = i + 1
  · have hm0 : m = 0 := by omega
    subst hm0
    subst hci
    simp only [Nat.add_zero] at HEND HCLR HL hic him ⊢
    have z1 : (i : Int) ≤ (i : Int) + 1 := by omega
    have z2 : (0 : Int) ≤ (i : Int) + 1 := by omega
    go_enter Try.func54, Try.ntmps54
    go_wp2
    refine start_ (n := 8) (S := fun w' => True) (ds := []) #[false, false, false, false, false, false, false, false] (by kernel_rfl) rfl rfl trivial (fun hHeld => ?_)
    refine pure_ (i := 0) (N := some 20) (v := ?_) (a' := ?_) #[true, false, false, false, false, false, false, false] rfl rfl (by kernel_rfl) (fun _ _ _ h => h) (Or.inl ⟨by rfl, ?_⟩) ?_ ?_
    rotate_left
    · intro w'
      go_simp
      with_reducible rfl
    rotate_left
    · simp only [Act.put, List.setIfInBounds_toArray, List.set_cons_zero, List.set_cons_succ, i64_w, i32_w]
      rfl
    refine pure_ (i := 1) (N := some 21) (v := ?_) (a' := ?_) #[true, true, false, false, false, false, false, false] rfl rfl (by kernel_rfl) (fun _ _ _ h => h) (Or.inl ⟨by rfl, ?_⟩) ?_ ?_
    rotate_left
    · intro w'
      go_simp
      with_reducible rfl
    rotate_left
    · simp only [Act.put, List.setIfInBounds_toArray, List.set_cons_zero, List.set_cons_succ, i64_w, i32_w]
      rfl
    refine pure_ (i := 2) (N := some 22) (v := ?_) (a' := ?_) #[true, true, true, false, false, false, false, false] rfl rfl (by kernel_rfl) (fun _ _ _ h => h) (Or.inl ⟨by rfl, ?_⟩) ?_ ?_
    rotate_left
    · intro w'
      go_simp
      with_reducible rfl
    rotate_left
    · simp only [Act.put, List.setIfInBounds_toArray, List.set_cons_zero, List.set_cons_succ, i64_w, i32_w]
      rfl
    refine pure_ (i := 3) (N := some 23) (v := ?_) (a' := ?_) #[true, true, true, true, false, false, false, false] rfl rfl (by kernel_rfl) (fun _ _ _ h => h) (Or.inl ⟨by rfl, ?_⟩) ?_ ?_
    rotate_left
    · intro w'
      go_simp
      with_reducible rfl
    rotate_left
    · simp only [Act.put, List.setIfInBounds_toArray, List.set_cons_zero, List.set_cons_succ, i64_w, i32_w]
      rfl
    refine pure_ (i := 4) (N := some 24) (v := ?_) (a' := ?_) #[true, true, true, true, true, false, false, false] rfl rfl (by kernel_rfl) (fun _ _ _ h => h) (Or.inl ⟨by rfl, ?_⟩) ?_ ?_
    rotate_left
    · intro w'
      go_simp
      with_reducible rfl
    rotate_left
    · simp only [Act.put, List.setIfInBounds_toArray, List.set_cons_zero, List.set_cons_succ, i64_w, i32_w]
      rfl
    refine pure_ (i := 5) (N := some 25) (v := ?_) (a' := ?_) #[true, true, true, true, true, true, false, false] rfl rfl (by kernel_rfl) (fun _ _ _ h => h) (Or.inl ⟨by rfl, ?_⟩) ?_ ?_
    rotate_left
    · intro w'
      go_simp
      with_reducible rfl
    rotate_left
    · simp only [Act.put, List.setIfInBounds_toArray, List.set_cons_zero, List.set_cons_succ, i64_w, i32_w]
      rfl
    refine one_ (i := 6) (N := some 26) #[true, true, true, true, true, true, true, false] rfl rfl (by kernel_rfl) (by decide) (fun K hK => ?_)
    refine step_append_room rfl (.tmp 22) (.tmp 25) 22 rfl 43 i0 3 Try.underlying22 HI0.out HZ1.out g 0 i (i + 1) rfl ⟨g, 0, none⟩ 0 0 (cellsOf (l.drop (i + 1))) rfl hnews.out ?ncz (cellsOf_one _) (by omega) hspare.out ?_
    case ncz => intro j u hu; exact absurd (List.getElem?_eq_some_iff.1 hu).1 (by rw [hnews.out]; omega)
    refine hK.out _ _ trivial (fun hHeld => ?_)
    clear hK K
    refine norm_ (a' := ?_) ?_ ?_
    rotate_left
    · show Act.put _ (some 26) _ = _
      simp only [Act.put, List.setIfInBounds_toArray, List.set_cons_zero, List.set_cons_succ, i64_w, i32_w]
      rfl
    refine pure_ (i := 7) (N := some 0) (v := ?_) (a' := ?_) #[true, true, true, true, true, true, true, true] rfl rfl (by kernel_rfl) (fun _ _ _ h => h) (Or.inl ⟨by rfl, ?_⟩) ?_ ?_
    rotate_left
    · intro w'
      go_simp
      with_reducible rfl
    rotate_left
    · simp only [Act.put, List.setIfInBounds_toArray, List.set_cons_zero, List.set_cons_succ, i64_w, i32_w]
      rfl
    refine done_ (by kernel_rfl) ?_
    obtain ⟨W, hW⟩ : ∃ W, W = (w.drew.setCells g (0 + i * 3) (cellsOf (l.drop (i + 1)))) := ⟨_, rfl⟩
    rw [← hW]
    have hclr := fun ty c' => HCLR.out ty c' W hW
    have HW := HEND.out W hW
    clear hW HEND HCLR hHeld
    go_wp2
    go_ret
    exact ⟨rfl, HW.out.2.2.1, HW.out.2.2.2.1, HW.out.2.2.2.2⟩
  · have z2 : (0 : Int) ≤ (i : Int) + 1 := by omega
    have z3 : (i : Int) + 1 ≤ (i : Int) + (m : Int) + 1 := by omega
    have z4 : i + 1 ≤ c := by omega
    have z5 : (i : Int) + 1 ≤ (c : Int) := by omega
    go_enter Try.func54, Try.ntmps54
    go_wp2
    refine start_ (n := 8) (S := fun w' => True) (ds := []) #[false, false, false, false, false, false, false, false] (by kernel_rfl) rfl rfl trivial (fun hHeld => ?_)
    refine pure_ (i := 0) (N := some 20) (v := ?_) (a' := ?_) #[true, false, false, false, false, false, false, false] rfl rfl (by kernel_rfl) (fun _ _ _ h => h) (Or.inl ⟨by rfl, ?_⟩) ?_ ?_
    rotate_left
    · intro w'
      go_simp
      with_reducible rfl
    rotate_left
    · simp only [Act.put, List.setIfInBounds_toArray, List.set_cons_zero, List.set_cons_succ, i64_w, i32_w]
      rfl
    refine pure_ (i := 1) (N := some 21) (v := ?_) (a' := ?_) #[true, true, false, false, false, false, false, false] rfl rfl (by kernel_rfl) (fun _ _ _ h => h) (Or.inl ⟨by rfl, ?_⟩) ?_ ?_
    rotate_left
    · intro w'
      go_simp
      with_reducible rfl
    rotate_left
    · simp only [Act.put, List.setIfInBounds_toArray, List.set_cons_zero, List.set_cons_succ, i64_w, i32_w]
      rfl
    refine pure_ (i := 2) (N := some 22) (v := ?_) (a' := ?_) #[true, true, true, false, false, false, false, false] rfl rfl (by kernel_rfl) (fun _ _ _ h => h) (Or.inl ⟨by rfl, ?_⟩) ?_ ?_
    rotate_left
    · intro w'
      go_simp
      with_reducible rfl
    rotate_left
    · simp only [Act.put, List.setIfInBounds_toArray, List.set_cons_zero, List.set_cons_succ, i64_w, i32_w]
      rfl
    refine pure_ (i := 3) (N := some 23) (v := ?_) (a' := ?_) #[true, true, true, true, false, false, false, false] rfl rfl (by kernel_rfl) (fun _ _ _ h => h) (Or.inl ⟨by rfl, ?_⟩) ?_ ?_
    rotate_left
    · intro w'
      go_simp
      with_reducible rfl
    rotate_left
    · simp only [Act.put, List.setIfInBounds_toArray, List.set_cons_zero, List.set_cons_succ, i64_w, i32_w]
      rfl
    refine pure_ (i := 4) (N := some 24) (v := ?_) (a' := ?_) #[true, true, true, true, true, false, false, false] rfl rfl (by kernel_rfl) (fun _ _ _ h => h) (Or.inl ⟨by rfl, ?_⟩) ?_ ?_
    rotate_left
    · intro w'
      go_simp
      with_reducible rfl
    rotate_left
    · simp only [Act.put, List.setIfInBounds_toArray, List.set_cons_zero, List.set_cons_succ, i64_w, i32_w]
      rfl
    refine pure_ (i := 5) (N := some 25) (v := ?_) (a' := ?_) #[true, true, true, true, true, true, false, false] rfl rfl (by kernel_rfl) (fun _ _ _ h => h) (Or.inl ⟨by rfl, ?_⟩) ?_ ?_
    rotate_left
    · intro w'
      go_simp
      with_reducible rfl
    rotate_left
    · simp only [Act.put, List.setIfInBounds_toArray, List.set_cons_zero, List.set_cons_succ, i64_w, i32_w]
      rfl
    refine one_ (i := 6) (N := some 26) #[true, true, true, true, true, true, true, false] rfl rfl (by kernel_rfl) (by decide) (fun K hK => ?_)
    refine step_append_room rfl (.tmp 22) (.tmp 25) 22 rfl 43 i0 3 Try.underlying22 HI0.out HZ1.out g 0 i c rfl ⟨g, (i + 1) * 3, none⟩ m (c - (i + 1)) (cellsOf (l.drop (i + 1))) rfl hnews.out ?ncg (cellsOf_one _) (by omega) hspare.out ?_
    case ncg => intro j u hu; rw [add_plain']; exact hcell.out j u hu
    refine hK.out _ _ trivial (fun hHeld => ?_)
    clear hK K
    refine norm_ (a' := ?_) ?_ ?_
    rotate_left
    · show Act.put _ (some 26) _ = _
      simp only [Act.put, List.setIfInBounds_toArray, List.set_cons_zero, List.set_cons_succ, i64_w, i32_w]
      rfl
    refine pure_ (i := 7) (N := some 0) (v := ?_) (a' := ?_) #[true, true, true, true, true, true, true, true] rfl rfl (by kernel_rfl) (fun _ _ _ h => h) (Or.inl ⟨by rfl, ?_⟩) ?_ ?_
    rotate_left
    · intro w'
      go_simp
      with_reducible rfl
    rotate_left
    · simp only [Act.put, List.setIfInBounds_toArray, List.set_cons_zero, List.set_cons_succ, i64_w, i32_w]
      rfl
    refine done_ (by kernel_rfl) ?_
    obtain ⟨W, hW⟩ : ∃ W, W = (w.drew.setCells g (0 + i * 3) (cellsOf (l.drop (i + 1)))) := ⟨_, rfl⟩
    rw [← hW]
    have hclr := fun ty c' => HCLR.out ty c' W hW
    have HW := HEND.out W hW
    clear hW HEND HCLR hHeld
    go_wp2
    go_ret
    exact ⟨rfl, HW.out.2.2.1, HW.out.2.2.2.1, HW.out.2.2.2.2⟩

theorem below_drew' {B : Nat} {w W : World} (h : Below B w.drew W) : Below B w W := ⟨h.os, h.tape, h.output, h.size, h.block⟩
theorem enters53 : Enters 53 := fun args w => enters_ Try.func53 (by kernel_rfl) (by kernel_rfl) args w
set_option maxHeartbeats 8000000 in
set_option maxRecDepth 100000 in
theorem remove_do (gp b1 : Nat) (w : World) (base : Nat) (l : List S43) (A : Option Addr) (c : Nat) (dn : Bool) (fu fa : Int) (i : Nat) (hlt : i < l.length) (hn : l.length ≤ 64) (hb1 : w.heap[b1]? = some (.cells #[.pointer (some ⟨gp, 0, none⟩)] 59 (0, 0)))
    (hp : Plate w base gp (.slice A l.length c) l dn fu fa) (hgpb : base ≤ gp) :
    Calls Try.prog 53 #[.int .i64 (i : Int), .pointer (some ⟨b1, 0, none⟩)] w (Done w base gp dn fu fa (l.take i ++ l.drop (i + 1))) := by
  obtain ⟨hp, ho⟩ := hp
  obtain ⟨g, cur, rfl, _, hg, hh, h3, h4, h5, h6⟩ := R_block ho (by omega)
  obtain ⟨m, hm⟩ : ∃ m, l.length = i + m + 1 := ⟨l.length - i - 1, by omega⟩
  have s1 : w.cell? ⟨b1, 0, none⟩ = some (.pointer (some ⟨gp, 0, none⟩)) := (blk_cell hb1 0).trans rfl
  have s2 : w.cell? ⟨gp, 0, none⟩ = some (.slice (some ⟨g, 0, none⟩) l.length c) := (blk_cell hp 0).trans rfl
  have ngp : gp ≠ g := fun e => other_block hh hp (by decide) e.symm
  have ngb : b1 ≠ g := fun e => other_block hh hb1 (by decide) e.symm
  obtain ⟨l3, hl3⟩ : ∃ l3, l3 = l.take i ++ l.drop (i + 1) := ⟨_, rfl⟩
  rw [← hl3]
  have HL3 := Aside0.mk hl3
  have HM := Aside0.mk hm
  have HO := Aside0.mk ho
  have HP := Aside0.mk hp
  have HH := Aside0.mk hh
  have HB1 := Aside0.mk hb1
  have NGP := Aside0.mk ngp
  have NGB := Aside0.mk ngb
  have HG := Aside0.mk hg
  have hi0 : (0 : Int) ≤ (i : Int) := by omega
  have hi1 : (i : Int) ≤ 64 := by omega
  clear hl3 hm ho hp hh hb1 ngp ngb h3 h4 h5 h6 hg hlt
  go_enter Try.func53, Try.ntmps53
  go_wp2
  refine start_ (n := 14) (S := fun w' => w'.cell? ⟨b1, 0, none⟩ = some (.pointer (some ⟨gp, 0, none⟩)) ∧ w'.cell? ⟨gp, 0, none⟩ = some (.slice (some ⟨g, 0, none⟩) l.length c)) (ds := [13]) #[false, false, false, false, false, false, false, false, false, false, false, false, false, false] (by kernel_rfl) rfl rfl ⟨s1, s2⟩ (fun hHeld => ?_)
  refine pure_ (i := 6) (N := some 9) (v := ?_) (a' := ?_) #[false, false, false, false, false, false, true, false, false, false, false, false, false, false] rfl rfl (by kernel_rfl) (fun _ _ _ h => h) (Or.inl ⟨by rfl, ?_⟩) ?_ ?_
  rotate_left
  · intro w'
    go_simp
    with_reducible rfl
  rotate_left
  · simp only [Act.put, List.setIfInBounds_toArray, List.set_cons_zero, List.set_cons_succ, i64_w, i32_w]
    rfl
  refine pure_ (i := 7) (N := some 10) (v := ?_) (a' := ?_) #[false, false, false, false, false, false, true, true, false, false, false, false, false, false] rfl rfl (by kernel_rfl) (fun _ _ _ h => h) (Or.inl ⟨by rfl, ?_⟩) ?_ ?_
  rotate_left
  · intro w'
    go_simp
    with_reducible rfl
  rotate_left
  · simp only [Act.put, List.setIfInBounds_toArray, List.set_cons_zero, List.set_cons_succ, i64_w, i32_w]
    rfl
  refine pure_ (i := 8) (N := some 11) (v := ?_) (a' := ?_) #[false, false, false, false, false, false, true, true, true, false, false, false, false, false] rfl rfl (by kernel_rfl) (fun _ _ _ h => h) (Or.inl ⟨by rfl, ?_⟩) ?_ ?_
  rotate_left
  · intro w'
    go_simp
    with_reducible rfl
  rotate_left
  · simp only [Act.put, List.setIfInBounds_toArray, List.set_cons_zero, List.set_cons_succ, i64_w, i32_w]
    rfl
  refine take_ (i := 0) (N := some 3) (v := ?_) (a' := ?_) #[true, false, false, false, false, false, true, true, true, false, false, false, false, false] rfl rfl (by kernel_rfl) (fun _ _ _ h => h) (Or.inl ⟨by rfl, ?_⟩) hHeld ?_ ?_
  rotate_left
  · rintro w' ⟨s0, s1⟩
    go_simp
    with_reducible rfl
  rotate_left
  · simp only [Act.put, List.setIfInBounds_toArray, List.set_cons_zero, List.set_cons_succ, i64_w, i32_w]
    rfl
  refine take_ (i := 1) (N := some 4) (v := ?_) (a' := ?_) #[true, true, false, false, false, false, true, true, true, false, false, false, false, false] rfl rfl (by kernel_rfl) (fun _ _ _ h => h) (Or.inl ⟨by rfl, ?_⟩) hHeld ?_ ?_
  rotate_left
  · rintro w' ⟨s0, s1⟩
    go_simp
    with_reducible rfl
  rotate_left
  · simp only [Act.put, List.setIfInBounds_toArray, List.set_cons_zero, List.set_cons_succ, i64_w, i32_w]
    rfl
  refine pure_ (i := 2) (N := some 5) (v := ?_) (a' := ?_) #[true, true, true, false, false, false, true, true, true, false, false, false, false, false] rfl rfl (by kernel_rfl) (fun _ _ _ h => h) (Or.inl ⟨by rfl, ?_⟩) ?_ ?_
  rotate_left
  · intro w'
    go_simp
    with_reducible rfl
  rotate_left
  · simp only [Act.put, List.setIfInBounds_toArray, List.set_cons_zero, List.set_cons_succ, i64_w, i32_w]
    rfl
  refine pure_ (i := 3) (N := some 6) (v := ?_) (a' := ?_) #[true, true, true, true, false, false, true, true, true, false, false, false, false, false] rfl rfl (by kernel_rfl) (fun _ _ _ h => h) (Or.inl ⟨by rfl, ?_⟩) ?_ ?_
  rotate_left
  · intro w'
    go_simp
    with_reducible rfl
  rotate_left
  · simp only [Act.put, List.setIfInBounds_toArray, List.set_cons_zero, List.set_cons_succ, i64_w, i32_w]
    rfl
  refine pure_ (i := 4) (N := some 7) (v := ?_) (a' := ?_) #[true, true, true, true, true, false, true, true, true, false, false, false, false, false] rfl rfl (by kernel_rfl) (fun _ _ _ h => h) (Or.inl ⟨by rfl, ?_⟩) ?_ ?_
  rotate_left
  · intro w'
    go_simp
    with_reducible rfl
  rotate_left
  · simp only [Act.put, List.setIfInBounds_toArray, List.set_cons_zero, List.set_cons_succ, i64_w, i32_w]
    rfl
  refine take_ (i := 5) (N := some 8) (v := ?_) (a' := ?_) #[true, true, true, true, true, true, true, true, true, false, false, false, false, false] rfl rfl (by kernel_rfl) (fun _ _ _ h => h) (Or.inl ⟨by rfl, ?_⟩) hHeld ?_ ?_
  rotate_left
  · rintro w' ⟨s0, s1⟩
    go_simp
    with_reducible rfl
  rotate_left
  · simp only [Act.put, List.setIfInBounds_toArray, List.set_cons_zero, List.set_cons_succ, i64_w, i32_w]
    rfl
  refine one_ (i := 9) (N := some 12) #[true, true, true, true, true, true, true, true, true, true, false, false, false, false] rfl rfl (by kernel_rfl) (by decide) (fun K hK => ?_)
  refine goes_ Try.func54 (by kernel_rfl) rfl #[.slice (some ⟨g, 0, none⟩) l.length c, .int .i64 (i : Int), .int .i64 (wrap64 ((i : Int) + 1))] (by rfl) rfl rfl (by simp only [List.map_toArray, List.map_cons, List.map_nil]; rfl) ?_
  refine (calls_of_args (args' := #[.slice (some ⟨g, 0, none⟩) (i + m + 1) c, .int .i64 (i : Int), .int .i64 ((i : Int) + 1)]) (by rw [HM.out, show wrap64 ((i : Int) + 1) = (i : Int) + 1 by unfold wrap64; omega]) (delete_any w.drew base l g c i m HM.out hn (Kd.R_drew HO.out))).mono ?_
  rintro e w4 ⟨rfl, hR, hB, hk⟩
  rw [← HL3.out] at hR
  have HR4 := Aside0.mk hR
  have HB4 := Aside0.mk hB
  have hp4 := (hk gp NGP.out).trans HP.out
  have HK4 := Aside0.mk hk
  have hfr := blk_frozen hp4 0
  have HP4 := Aside0.mk hp4
  have hbb4 := Aside0.mk ((hk b1 NGB.out).trans HB1.out)
  clear hR hB hk hp4
  refine ⟨_, rfl, ?_⟩
  refine hK.out _ _ ⟨((blk_cell hbb4.out 0).trans rfl), ((blk_cell HP4.out 0).trans rfl)⟩ (fun hHeld => ?_)
  clear hK K
  refine norm_ (a' := ?_) ?_ ?_
  rotate_left
  · show Act.put _ (some 12) _ = _
    simp only [Act.put, List.setIfInBounds_toArray, List.set_cons_zero, List.set_cons_succ, i64_w, i32_w]
    rfl
  refine pure_ (i := 10) (N := some 13) (v := ?_) (a' := ?_) #[true, true, true, true, true, true, true, true, true, true, true, false, false, false] rfl rfl (by kernel_rfl) (fun _ _ _ h => h) (Or.inl ⟨by rfl, ?_⟩) ?_ ?_
  rotate_left
  · intro w'
    go_simp
    with_reducible rfl
  rotate_left
  · simp only [Act.put, List.setIfInBounds_toArray, List.set_cons_zero, List.set_cons_succ, i64_w, i32_w]
    rfl
  refine pure_ (i := 11) (N := some 14) (v := ?_) (a' := ?_) #[true, true, true, true, true, true, true, true, true, true, true, true, false, false] rfl rfl (by kernel_rfl) (fun _ _ _ h => h) (Or.inl ⟨by rfl, ?_⟩) ?_ ?_
  rotate_left
  · intro w'
    go_simp
    with_reducible rfl
  rotate_left
  · simp only [Act.put, List.setIfInBounds_toArray, List.set_cons_zero, List.set_cons_succ, i64_w, i32_w]
    rfl
  refine pure_ (i := 12) (N := some 15) (v := ?_) (a' := ?_) #[true, true, true, true, true, true, true, true, true, true, true, true, true, false] rfl rfl (by kernel_rfl) (fun _ _ _ h => h) (Or.inl ⟨by rfl, ?_⟩) ?_ ?_
  rotate_left
  · intro w'
    go_simp
    with_reducible rfl
  rotate_left
  · simp only [Act.put, List.setIfInBounds_toArray, List.set_cons_zero, List.set_cons_succ, i64_w, i32_w]
    rfl
  refine last_ (i := 13) (N := none) #[true, true, true, true, true, true, true, true, true, true, true, true, true, true] rfl rfl (by kernel_rfl) (by decide) (fun K hK => ?_)
  refine skip_ (w1 := ?_) (by rfl) rfl ?_ ?_
  rotate_left
  · go_simp
    rfl
  refine hK.out _ _ ?_
  clear hK K
  refine done_ (by kernel_rfl) ?_
  go_end0
  have hlen : l3.length = i + m := by rw [HL3.out, List.length_append, List.length_take, List.length_drop, HM.out]; omega
  refine ⟨rfl, .slice (some ⟨g, 0, none⟩) (i + m) c, blk_put (cs := #[.slice (some ⟨g, 0, none⟩) l.length c, .bool dn, .int .i64 fu, .int .i64 fa]) HP4.out 0 _ rfl, R1 (j := 0) HR4.out HP4.out (by decide) _, (below_drew' HB4.out).setCell hgpb _, fun k cs h => ?_⟩
  have hk := other_block h HH.out (by decide)
  exact blk_far (p := ⟨gp, 0, none⟩) ((HK4.out k hk).trans h) (other_block h HP.out (by decide)) _

set_option maxHeartbeats 4000000 in
set_option maxRecDepth 100000 in
theorem remove_of (W : World) (l : List S43) (dn : Bool) (fu fa : Int) (sd : Int → List S43) (hsd : ∀ (i : Nat), i < l.length → sd (i : Int) = l.take i ++ l.drop (i + 1)) :
    OfV W 37 #[] l dn fu fa false (fun _ b => if b = true then 0 else 7) sd := by
  intro w1 gp v hb hgp hp ho hok
  obtain ⟨A, c, rfl⟩ := Kd.R_slice ho
  have hlt : gp < w1.heap.size := blk_lt hp
  have hle : l.length ≤ 64 := by
    simp only [rightF, Bool.and_eq_true, decide_eq_true_eq] at hok
    exact hok.2
  go_enter Try.func37, Try.ntmps37
  go_wp2
  refine bodyPost_ret (results_cell_row rfl _ _ (w1.heap.size + 1) 63 #[.func (.func 49) #[] #[], .func (.func 53) #[] #[.pointer (some ⟨w1.heap.size, 0, none⟩)], .bool false] (0, 0) _ rfl (new2 w1 _ _) Try.underlying63 rfl (by kernel_rfl)) rfl ?_
  refine ⟨_, _, rfl, below_alloc (below_alloc (Below.refl _ _) _) _, ⟨49, #[], rfl, enters49, fun w3 i b _ _ _ => calls_of_args (by simp) ((there_any i b w3).mono ?_)⟩, 53, _, rfl, enters53, fun w3 i b dn fu fa hk hil hib hrf hp3 ho3 => ?_⟩
  · rintro e w4 ⟨rfl, rfl⟩
    exact ⟨rfl, Below.refl _ _⟩
  · have hbt : b = true := by
      cases b
      · simp at hrf
      · rfl
    refine calls_of_args (by simp) ((remove_do gp w1.heap.size w3 W.heap.size l A c dn fu fa i (hib hbt) hle (hk _ _ _ (by decide) (by decide) (fun h => by injection h with h; omega) (new1 w1 _ _)) ⟨hp3, ho3⟩ hgp).mono fun e w4 h => ?_)
    rw [hsd i (hib hbt)]
    exact h
end Go.Proofs.Ytanonhipicoigaa.T

namespace Go.Proofs.Ytanonhipicoigaa.T
open Go.RowKit Go.Proofs.YtanonhipicoigaaW.PrintWords Go.Proofs.YtanonhipicoigaaW.PrintLast Go.Proofs.YtanonhipicoigaaW.PrintMore
set_option linter.unusedVariables false
set_option linter.unusedSimpArgs false


/-! ### Create -/
def disk_Create.f (l0_0 : List (S43)) (a0_1 : Bool) (a0_2 : Int) (a0_3 : Int) (a1 : ByteArray) : Option ((List (S43)) × Bool × Int × Int × Int) := some (changedF l0_0 a0_1 a0_2 a0_3 a1 false (rfC a1 l0_0.length) (fun i => l0_0.take i.toNat ++ [(⟨a1, ⟨#[]⟩, 0⟩ : S43)] ++ l0_0.drop i.toNat))
set_option maxHeartbeats 4000000 in
set_option maxRecDepth 100000 in
theorem disk_Create.calls (A0_0 : Option Addr) (c0_0 : Nat) (l0_0 : List (S43)) (a0_1 : Bool) (a0_2 : Int) (a0_3 : Int) (a1 : ByteArray) (r1 : List (S43)) (r2 : Bool) (r3 : Int) (r4 : Int) (r5 : Int) (w : World) (hr0_0 : Kd.C k43 w A0_0 l0_0.length l0_0) (hc0_0 : l0_0.length ≤ c0_0) (h : disk_Create.f l0_0 a0_1 a0_2 a0_3 a1 = some (r1, r2, r3, r4, r5)) :
    Calls Try.prog 27 #[.agg #[.slice A0_0 l0_0.length c0_0, .bool a0_1, .int .i64 a0_2, .int .i64 a0_3], .string a1] w fun e w' => ∃ v0_ : Value, e = .returned (.tuple #[.agg #[v0_, .bool r2, .int .i64 r3, .int .i64 r4], .int .i64 r5]) ∧ Kd.R k43 43 w' w.heap.size (fun _ => True) v0_ r1 ∧ Below w.heap.size w w' := by
  unfold disk_Create.f at h
  have HE := Aside0.mk (Option.some.inj h)
  clear h
  have HR := Aside0.mk hr0_0
  have HC := Aside0.mk hc0_0
  clear hr0_0 hc0_0
  have HB := Aside0.mk (Below.refl w.heap.size w)
  go_enter Try.func27, Try.ntmps27
  go_wp2_with (first
    | ((with_reducible refine gate_dst (N := 2) rfl ?_);
        refine box_event ?hg (N := 2) ?hd (cs := #[.slice A0_0 l0_0.length c0_0, .bool a0_1, .int .i64 a0_2, .int .i64 a0_3]) (t := 24) ?hr ?_;
        (case hd => rfl); (case hg => rfl); (case hr => first | (go_simp; done) | (go_simp; rfl));
        intro gd hg w1 hbox hb;
        have n0_ := Aside0.mk (below_step HB.out hb);
        clear HB; have HB := n0_; have BKD := Aside0.mk hbox; clear n0_ hg hbox hb)
    | ((with_reducible refine gate_dst (N := 3) rfl ?_);
        refine box_event ?hg (N := 3) ?hd (cs := #[.string a1]) (t := 9) ?hr ?_;
        (case hd => rfl); (case hg => rfl); (case hr => first | (go_simp; done) | (go_simp; rfl));
        intro gn hg w2 hbox hb;
        have n0_ := Aside0.mk (below_step HB.out hb); have n1_ := Aside0.mk (blk_below BKD.out hb);
        clear HB BKD; have HB := n0_; have BKD := n1_; have BKN := Aside0.mk hbox; clear n0_ n1_ hg hbox hb)
    | ((with_reducible refine gate_dst (N := 4) rfl ?_);
        refine box_event ?hg (N := 4) ?hd (cs := #[.slice none 0 0, .bool false, .int .i64 0, .int .i64 0]) (t := 24) ?hr ?_;
        (case hd => rfl); (case hg => rfl); (case hr => first | (go_simp; done) | (go_simp; rfl));
        intro gr hg w3 hbox hb;
        have n0_ := Aside0.mk (below_step HB.out hb); have n1_ := Aside0.mk (blk_below BKD.out hb); have n2_ := Aside0.mk (blk_below BKN.out hb);
        have GR := Aside0.mk (show w.heap.size ≤ gr by rw [hg]; exact HB.out.size);
        clear HB BKD BKN; have HB := n0_; have BKD := n1_; have BKN := n2_; have BKR := Aside0.mk hbox; clear n0_ n1_ n2_ hg hbox hb;
        have d0 : w3.cell? ⟨gd, 0, none⟩ = some (.slice A0_0 l0_0.length c0_0) := (blk_cell BKD.out 0).trans rfl;
        have d1 : w3.cell? ⟨gd, 1, none⟩ = some (.bool a0_1) := (blk_cell BKD.out 1).trans rfl;
        have d2 : w3.cell? ⟨gd, 2, none⟩ = some (.int .i64 a0_2) := (blk_cell BKD.out 2).trans rfl;
        have d3 : w3.cell? ⟨gd, 3, none⟩ = some (.int .i64 a0_3) := (blk_cell BKD.out 3).trans rfl; have dn : w3.cell? ⟨gn, 0, none⟩ = some (.string a1) := (blk_cell BKN.out 0).trans rfl)
    | fail)
  refine ((changed_any 42 _ (fun args w => enters_ Try.func42 (by kernel_rfl) (by kernel_rfl) args w) A0_0 c0_0 l0_0 a0_1 a0_2 a0_3 a1 w3 (Kd.C_below HR.out HB.out) HC.out false (rfC a1 l0_0.length) (fun i => l0_0.take i.toNat ++ [(⟨a1, ⟨#[]⟩, 0⟩ : S43)] ++ l0_0.drop i.toNat) ?hof).mono ?_)
  case hof => exact create_of w3 gn l0_0 a0_1 a0_2 a0_3 a1 _ (fun i hi => by simp) BKN.out
  rw [HE.out]
  rintro e w4 ⟨v, rfl, ho, hb⟩
  have HO := Aside0.mk (Kd.R_lower ho HB.out.size)
  obtain ⟨A4, c4, e4⟩ := Kd.R_slice ho
  subst e4
  have n0_ := Aside0.mk (below_step HB.out hb)
  have bk := blk_below BKR.out hb
  have c0 := (blk_cell bk 0).trans rfl
  have c1 := (blk_cell bk 1).trans rfl
  have c2 := (blk_cell bk 2).trans rfl
  have c3 := (blk_cell bk 3).trans rfl
  have f0 := blk_frozen bk 0
  have f1 := blk_frozen bk 1
  have f2 := blk_frozen bk 2
  have f3 := blk_frozen bk 3
  have BK4 := Aside0.mk bk
  clear ho hb bk HB BKD BKR d0 d1 d2 d3 BKN dn
  go_wp2
  refine bodyPost_ret (results_ct rfl _ _ gr 24 #[.slice A4 r1.length c4, .bool r2, .int .i64 r3, .int .i64 r4] (0, 0) _ rfl (put4 BK4.out _ _ _ _) Try.underlying24 rfl (by kernel_rfl)) rfl ?_
  exact ⟨_, rfl, R4 HO.out BK4.out (by decide) _ _ _ _, below4 n0_.out GR.out _ _ _ _⟩

/-! ### Append -/
def disk_Append.f (l0_0 : List (S43)) (a0_1 : Bool) (a0_2 : Int) (a0_3 : Int) (a1 : ByteArray) (a2 : ByteArray) : Option ((List (S43)) × Bool × Int × Int × Int) := some (changedF l0_0 a0_1 a0_2 a0_3 a1 true (rfW a2 l0_0) (fun i => l0_0.set i.toNat ⟨(rd_T43 l0_0 i).f0, (rd_T43 l0_0 i).f1 ++ a2, (rd_T43 l0_0 i).f2⟩))
set_option maxHeartbeats 4000000 in
set_option maxRecDepth 100000 in
theorem disk_Append.calls (A0_0 : Option Addr) (c0_0 : Nat) (l0_0 : List (S43)) (a0_1 : Bool) (a0_2 : Int) (a0_3 : Int) (a1 : ByteArray) (a2 : ByteArray) (r1 : List (S43)) (r2 : Bool) (r3 : Int) (r4 : Int) (r5 : Int) (w : World) (hr0_0 : Kd.C k43 w A0_0 l0_0.length l0_0) (hc0_0 : l0_0.length ≤ c0_0) (h : disk_Append.f l0_0 a0_1 a0_2 a0_3 a1 a2 = some (r1, r2, r3, r4, r5)) :
    Calls Try.prog 11 #[.agg #[.slice A0_0 l0_0.length c0_0, .bool a0_1, .int .i64 a0_2, .int .i64 a0_3], .string a1, .string a2] w fun e w' => ∃ v0_ : Value, e = .returned (.tuple #[.agg #[v0_, .bool r2, .int .i64 r3, .int .i64 r4], .int .i64 r5]) ∧ Kd.R k43 43 w' w.heap.size (fun _ => True) v0_ r1 ∧ Below w.heap.size w w' := by
  unfold disk_Append.f at h
  have HE := Aside0.mk (Option.some.inj h)
  clear h
  have HR := Aside0.mk hr0_0
  have HC := Aside0.mk hc0_0
  clear hr0_0 hc0_0
  have HB := Aside0.mk (Below.refl w.heap.size w)
  go_enter Try.func11, Try.ntmps11
  go_wp2_with (first
    | ((with_reducible refine gate_dst (N := 3) rfl ?_);
        refine box_event ?hg (N := 3) ?hd (cs := #[.slice A0_0 l0_0.length c0_0, .bool a0_1, .int .i64 a0_2, .int .i64 a0_3]) (t := 24) ?hr ?_;
        (case hd => rfl); (case hg => rfl); (case hr => first | (go_simp; done) | (go_simp; rfl));
        intro gd hg w1 hbox hb;
        have n0_ := Aside0.mk (below_step HB.out hb);
        clear HB; have HB := n0_; have BKD := Aside0.mk hbox; clear n0_ hg hbox hb)
    | ((with_reducible refine gate_dst (N := 5) rfl ?_);
        refine box_event ?hg (N := 5) ?hd (cs := #[.string a2]) (t := 9) ?hr ?_;
        (case hd => rfl); (case hg => rfl); (case hr => first | (go_simp; done) | (go_simp; rfl));
        intro gn hg w2 hbox hb;
        have n0_ := Aside0.mk (below_step HB.out hb); have n1_ := Aside0.mk (blk_below BKD.out hb);
        clear HB BKD; have HB := n0_; have BKD := n1_; have BKN := Aside0.mk hbox; clear n0_ n1_ hg hbox hb)
    | ((with_reducible refine gate_dst (N := 6) rfl ?_);
        refine box_event ?hg (N := 6) ?hd (cs := #[.slice none 0 0, .bool false, .int .i64 0, .int .i64 0]) (t := 24) ?hr ?_;
        (case hd => rfl); (case hg => rfl); (case hr => first | (go_simp; done) | (go_simp; rfl));
        intro gr hg w3 hbox hb;
        have n0_ := Aside0.mk (below_step HB.out hb); have n1_ := Aside0.mk (blk_below BKD.out hb); have n2_ := Aside0.mk (blk_below BKN.out hb);
        have GR := Aside0.mk (show w.heap.size ≤ gr by rw [hg]; exact HB.out.size);
        clear HB BKD BKN; have HB := n0_; have BKD := n1_; have BKN := n2_; have BKR := Aside0.mk hbox; clear n0_ n1_ n2_ hg hbox hb;
        have d0 : w3.cell? ⟨gd, 0, none⟩ = some (.slice A0_0 l0_0.length c0_0) := (blk_cell BKD.out 0).trans rfl;
        have d1 : w3.cell? ⟨gd, 1, none⟩ = some (.bool a0_1) := (blk_cell BKD.out 1).trans rfl;
        have d2 : w3.cell? ⟨gd, 2, none⟩ = some (.int .i64 a0_2) := (blk_cell BKD.out 2).trans rfl;
        have d3 : w3.cell? ⟨gd, 3, none⟩ = some (.int .i64 a0_3) := (blk_cell BKD.out 3).trans rfl; have dn : w3.cell? ⟨gn, 0, none⟩ = some (.string a2) := (blk_cell BKN.out 0).trans rfl)
    | fail)
  refine ((changed_any 33 _ (fun args w => enters_ Try.func33 (by kernel_rfl) (by kernel_rfl) args w) A0_0 c0_0 l0_0 a0_1 a0_2 a0_3 a1 w3 (Kd.C_below HR.out HB.out) HC.out true (rfW a2 l0_0) (fun i => l0_0.set i.toNat ⟨(rd_T43 l0_0 i).f0, (rd_T43 l0_0 i).f1 ++ a2, (rd_T43 l0_0 i).f2⟩) ?hof).mono ?_)
  case hof => exact write_of w3 gn l0_0 a0_1 a0_2 a0_3 a2 _ (fun i x hx hs => by simp only [Int.toNat_natCast]; rw [rd_get hx]) BKN.out
  rw [HE.out]
  rintro e w4 ⟨v, rfl, ho, hb⟩
  have HO := Aside0.mk (Kd.R_lower ho HB.out.size)
  obtain ⟨A4, c4, e4⟩ := Kd.R_slice ho
  subst e4
  have n0_ := Aside0.mk (below_step HB.out hb)
  have bk := blk_below BKR.out hb
  have c0 := (blk_cell bk 0).trans rfl
  have c1 := (blk_cell bk 1).trans rfl
  have c2 := (blk_cell bk 2).trans rfl
  have c3 := (blk_cell bk 3).trans rfl
  have f0 := blk_frozen bk 0
  have f1 := blk_frozen bk 1
  have f2 := blk_frozen bk 2
  have f3 := blk_frozen bk 3
  have BK4 := Aside0.mk bk
  clear ho hb bk HB BKD BKR d0 d1 d2 d3 BKN dn
  go_wp2
  refine bodyPost_ret (results_ct rfl _ _ gr 24 #[.slice A4 r1.length c4, .bool r2, .int .i64 r3, .int .i64 r4] (0, 0) _ rfl (put4 BK4.out _ _ _ _) Try.underlying24 rfl (by kernel_rfl)) rfl ?_
  exact ⟨_, rfl, R4 HO.out BK4.out (by decide) _ _ _ _, below4 n0_.out GR.out _ _ _ _⟩

/-! ### Cut -/
def disk_Cut.f (l0_0 : List (S43)) (a0_1 : Bool) (a0_2 : Int) (a0_3 : Int) (a1 : ByteArray) (a2 : Int) : Option ((List (S43)) × Bool × Int × Int × Int) := some (changedF l0_0 a0_1 a0_2 a0_3 a1 false (rfT a2 l0_0) (fun i => l0_0.set i.toNat ⟨(rd_T43 l0_0 i).f0, (rd_T43 l0_0 i).f1.extract 0 a2.toNat, a2⟩))
set_option maxHeartbeats 4000000 in
set_option maxRecDepth 100000 in
theorem disk_Cut.calls (A0_0 : Option Addr) (c0_0 : Nat) (l0_0 : List (S43)) (a0_1 : Bool) (a0_2 : Int) (a0_3 : Int) (a1 : ByteArray) (a2 : Int) (r1 : List (S43)) (r2 : Bool) (r3 : Int) (r4 : Int) (r5 : Int) (w : World) (hr0_0 : Kd.C k43 w A0_0 l0_0.length l0_0) (hc0_0 : l0_0.length ≤ c0_0) (h : disk_Cut.f l0_0 a0_1 a0_2 a0_3 a1 a2 = some (r1, r2, r3, r4, r5)) :
    Calls Try.prog 12 #[.agg #[.slice A0_0 l0_0.length c0_0, .bool a0_1, .int .i64 a0_2, .int .i64 a0_3], .string a1, .int .i64 a2] w fun e w' => ∃ v0_ : Value, e = .returned (.tuple #[.agg #[v0_, .bool r2, .int .i64 r3, .int .i64 r4], .int .i64 r5]) ∧ Kd.R k43 43 w' w.heap.size (fun _ => True) v0_ r1 ∧ Below w.heap.size w w' := by
  unfold disk_Cut.f at h
  have HE := Aside0.mk (Option.some.inj h)
  clear h
  have HR := Aside0.mk hr0_0
  have HC := Aside0.mk hc0_0
  clear hr0_0 hc0_0
  have HB := Aside0.mk (Below.refl w.heap.size w)
  go_enter Try.func12, Try.ntmps12
  go_wp2_with (first
    | ((with_reducible refine gate_dst (N := 3) rfl ?_);
        refine box_event ?hg (N := 3) ?hd (cs := #[.slice A0_0 l0_0.length c0_0, .bool a0_1, .int .i64 a0_2, .int .i64 a0_3]) (t := 24) ?hr ?_;
        (case hd => rfl); (case hg => rfl); (case hr => first | (go_simp; done) | (go_simp; rfl));
        intro gd hg w1 hbox hb;
        have n0_ := Aside0.mk (below_step HB.out hb);
        clear HB; have HB := n0_; have BKD := Aside0.mk hbox; clear n0_ hg hbox hb)
    | ((with_reducible refine gate_dst (N := 5) rfl ?_);
        refine box_event ?hg (N := 5) ?hd (cs := #[.int .i64 a2]) (t := 3) ?hr ?_;
        (case hd => rfl); (case hg => rfl); (case hr => first | (go_simp; done) | (go_simp; rfl));
        intro gn hg w2 hbox hb;
        have n0_ := Aside0.mk (below_step HB.out hb); have n1_ := Aside0.mk (blk_below BKD.out hb);
        clear HB BKD; have HB := n0_; have BKD := n1_; have BKN := Aside0.mk hbox; clear n0_ n1_ hg hbox hb)
    | ((with_reducible refine gate_dst (N := 6) rfl ?_);
        refine box_event ?hg (N := 6) ?hd (cs := #[.slice none 0 0, .bool false, .int .i64 0, .int .i64 0]) (t := 24) ?hr ?_;
        (case hd => rfl); (case hg => rfl); (case hr => first | (go_simp; done) | (go_simp; rfl));
        intro gr hg w3 hbox hb;
        have n0_ := Aside0.mk (below_step HB.out hb); have n1_ := Aside0.mk (blk_below BKD.out hb); have n2_ := Aside0.mk (blk_below BKN.out hb);
        have GR := Aside0.mk (show w.heap.size ≤ gr by rw [hg]; exact HB.out.size);
        clear HB BKD BKN; have HB := n0_; have BKD := n1_; have BKN := n2_; have BKR := Aside0.mk hbox; clear n0_ n1_ n2_ hg hbox hb;
        have d0 : w3.cell? ⟨gd, 0, none⟩ = some (.slice A0_0 l0_0.length c0_0) := (blk_cell BKD.out 0).trans rfl;
        have d1 : w3.cell? ⟨gd, 1, none⟩ = some (.bool a0_1) := (blk_cell BKD.out 1).trans rfl;
        have d2 : w3.cell? ⟨gd, 2, none⟩ = some (.int .i64 a0_2) := (blk_cell BKD.out 2).trans rfl;
        have d3 : w3.cell? ⟨gd, 3, none⟩ = some (.int .i64 a0_3) := (blk_cell BKD.out 3).trans rfl; have dn : w3.cell? ⟨gn, 0, none⟩ = some (.int .i64 a2) := (blk_cell BKN.out 0).trans rfl)
    | fail)
  refine ((changed_any 35 _ (fun args w => enters_ Try.func35 (by kernel_rfl) (by kernel_rfl) args w) A0_0 c0_0 l0_0 a0_1 a0_2 a0_3 a1 w3 (Kd.C_below HR.out HB.out) HC.out false (rfT a2 l0_0) (fun i => l0_0.set i.toNat ⟨(rd_T43 l0_0 i).f0, (rd_T43 l0_0 i).f1.extract 0 a2.toNat, a2⟩) ?hof).mono ?_)
  case hof => exact cut_of w3 gn l0_0 a0_1 a0_2 a0_3 a2 _ (fun i n x hx he hn => by subst he; simp only [Int.toNat_natCast]; rw [rd_get hx]) BKN.out
  rw [HE.out]
  rintro e w4 ⟨v, rfl, ho, hb⟩
  have HO := Aside0.mk (Kd.R_lower ho HB.out.size)
  obtain ⟨A4, c4, e4⟩ := Kd.R_slice ho
  subst e4
  have n0_ := Aside0.mk (below_step HB.out hb)
  have bk := blk_below BKR.out hb
  have c0 := (blk_cell bk 0).trans rfl
  have c1 := (blk_cell bk 1).trans rfl
  have c2 := (blk_cell bk 2).trans rfl
  have c3 := (blk_cell bk 3).trans rfl
  have f0 := blk_frozen bk 0
  have f1 := blk_frozen bk 1
  have f2 := blk_frozen bk 2
  have f3 := blk_frozen bk 3
  have BK4 := Aside0.mk bk
  clear ho hb bk HB BKD BKR d0 d1 d2 d3 BKN dn
  go_wp2
  refine bodyPost_ret (results_ct rfl _ _ gr 24 #[.slice A4 r1.length c4, .bool r2, .int .i64 r3, .int .i64 r4] (0, 0) _ rfl (put4 BK4.out _ _ _ _) Try.underlying24 rfl (by kernel_rfl)) rfl ?_
  exact ⟨_, rfl, R4 HO.out BK4.out (by decide) _ _ _ _, below4 n0_.out GR.out _ _ _ _⟩

/-! ### Sync -/
def disk_Sync.f (l0_0 : List (S43)) (a0_1 : Bool) (a0_2 : Int) (a0_3 : Int) (a1 : ByteArray) : Option ((List (S43)) × Bool × Int × Int × Int) := some (changedF l0_0 a0_1 a0_2 a0_3 a1 false (fun _ b => if b = true then 0 else 7) (fun i => l0_0.set i.toNat ⟨(rd_T43 l0_0 i).f0, (rd_T43 l0_0 i).f1, ((rd_T43 l0_0 i).f1.size : Int)⟩))
set_option maxHeartbeats 4000000 in
set_option maxRecDepth 100000 in
theorem disk_Sync.calls (A0_0 : Option Addr) (c0_0 : Nat) (l0_0 : List (S43)) (a0_1 : Bool) (a0_2 : Int) (a0_3 : Int) (a1 : ByteArray) (r1 : List (S43)) (r2 : Bool) (r3 : Int) (r4 : Int) (r5 : Int) (w : World) (hr0_0 : Kd.C k43 w A0_0 l0_0.length l0_0) (hc0_0 : l0_0.length ≤ c0_0) (h : disk_Sync.f l0_0 a0_1 a0_2 a0_3 a1 = some (r1, r2, r3, r4, r5)) :
    Calls Try.prog 29 #[.agg #[.slice A0_0 l0_0.length c0_0, .bool a0_1, .int .i64 a0_2, .int .i64 a0_3], .string a1] w fun e w' => ∃ v0_ : Value, e = .returned (.tuple #[.agg #[v0_, .bool r2, .int .i64 r3, .int .i64 r4], .int .i64 r5]) ∧ Kd.R k43 43 w' w.heap.size (fun _ => True) v0_ r1 ∧ Below w.heap.size w w' := by
  unfold disk_Sync.f at h
  have HE := Aside0.mk (Option.some.inj h)
  clear h
  have HR := Aside0.mk hr0_0
  have HC := Aside0.mk hc0_0
  clear hr0_0 hc0_0
  have HB := Aside0.mk (Below.refl w.heap.size w)
  go_enter Try.func29, Try.ntmps29
  go_wp2_with (first
    | ((with_reducible refine gate_dst (N := 2) rfl ?_);
        refine box_event ?hg (N := 2) ?hd (cs := #[.slice A0_0 l0_0.length c0_0, .bool a0_1, .int .i64 a0_2, .int .i64 a0_3]) (t := 24) ?hr ?_;
        (case hd => rfl); (case hg => rfl); (case hr => first | (go_simp; done) | (go_simp; rfl));
        intro gd hg w1 hbox hb;
        have n0_ := Aside0.mk (below_step HB.out hb);
        clear HB; have HB := n0_; have BKD := Aside0.mk hbox; clear n0_ hg hbox hb)
    | ((with_reducible refine gate_dst (N := 4) rfl ?_);
        refine box_event ?hg (N := 4) ?hd (cs := #[.slice none 0 0, .bool false, .int .i64 0, .int .i64 0]) (t := 24) ?hr ?_;
        (case hd => rfl); (case hg => rfl); (case hr => first | (go_simp; done) | (go_simp; rfl));
        intro gr hg w3 hbox hb;
        have n0_ := Aside0.mk (below_step HB.out hb); have n1_ := Aside0.mk (blk_below BKD.out hb);
        have GR := Aside0.mk (show w.heap.size ≤ gr by rw [hg]; exact HB.out.size);
        clear HB BKD; have HB := n0_; have BKD := n1_; have BKR := Aside0.mk hbox; clear n0_ n1_ hg hbox hb;
        have d0 : w3.cell? ⟨gd, 0, none⟩ = some (.slice A0_0 l0_0.length c0_0) := (blk_cell BKD.out 0).trans rfl;
        have d1 : w3.cell? ⟨gd, 1, none⟩ = some (.bool a0_1) := (blk_cell BKD.out 1).trans rfl;
        have d2 : w3.cell? ⟨gd, 2, none⟩ = some (.int .i64 a0_2) := (blk_cell BKD.out 2).trans rfl;
        have d3 : w3.cell? ⟨gd, 3, none⟩ = some (.int .i64 a0_3) := (blk_cell BKD.out 3).trans rfl)
    | fail)
  refine ((changed_any 44 _ (fun args w => enters_ Try.func44 (by kernel_rfl) (by kernel_rfl) args w) A0_0 c0_0 l0_0 a0_1 a0_2 a0_3 a1 w3 (Kd.C_below HR.out HB.out) HC.out false (fun _ b => if b = true then 0 else 7) (fun i => l0_0.set i.toNat ⟨(rd_T43 l0_0 i).f0, (rd_T43 l0_0 i).f1, ((rd_T43 l0_0 i).f1.size : Int)⟩) ?hof).mono ?_)
  case hof => exact sync_of w3 l0_0 a0_1 a0_2 a0_3 _ (fun i x hx => by simp only [Int.toNat_natCast]; rw [rd_get hx])
  rw [HE.out]
  rintro e w4 ⟨v, rfl, ho, hb⟩
  have HO := Aside0.mk (Kd.R_lower ho HB.out.size)
  obtain ⟨A4, c4, e4⟩ := Kd.R_slice ho
  subst e4
  have n0_ := Aside0.mk (below_step HB.out hb)
  have bk := blk_below BKR.out hb
  have c0 := (blk_cell bk 0).trans rfl
  have c1 := (blk_cell bk 1).trans rfl
  have c2 := (blk_cell bk 2).trans rfl
  have c3 := (blk_cell bk 3).trans rfl
  have f0 := blk_frozen bk 0
  have f1 := blk_frozen bk 1
  have f2 := blk_frozen bk 2
  have f3 := blk_frozen bk 3
  have BK4 := Aside0.mk bk
  clear ho hb bk HB BKD BKR d0 d1 d2 d3
  go_wp2
  refine bodyPost_ret (results_ct rfl _ _ gr 24 #[.slice A4 r1.length c4, .bool r2, .int .i64 r3, .int .i64 r4] (0, 0) _ rfl (put4 BK4.out _ _ _ _) Try.underlying24 rfl (by kernel_rfl)) rfl ?_
  exact ⟨_, rfl, R4 HO.out BK4.out (by decide) _ _ _ _, below4 n0_.out GR.out _ _ _ _⟩

/-! ### Remove -/
def disk_Remove.f (l0_0 : List (S43)) (a0_1 : Bool) (a0_2 : Int) (a0_3 : Int) (a1 : ByteArray) : Option ((List (S43)) × Bool × Int × Int × Int) := some (changedF l0_0 a0_1 a0_2 a0_3 a1 false (fun _ b => if b = true then 0 else 7) (fun i => l0_0.take i.toNat ++ l0_0.drop (i.toNat + 1)))
set_option maxHeartbeats 4000000 in
set_option maxRecDepth 100000 in
theorem disk_Remove.calls (A0_0 : Option Addr) (c0_0 : Nat) (l0_0 : List (S43)) (a0_1 : Bool) (a0_2 : Int) (a0_3 : Int) (a1 : ByteArray) (r1 : List (S43)) (r2 : Bool) (r3 : Int) (r4 : Int) (r5 : Int) (w : World) (hr0_0 : Kd.C k43 w A0_0 l0_0.length l0_0) (hc0_0 : l0_0.length ≤ c0_0) (h : disk_Remove.f l0_0 a0_1 a0_2 a0_3 a1 = some (r1, r2, r3, r4, r5)) :
    Calls Try.prog 13 #[.agg #[.slice A0_0 l0_0.length c0_0, .bool a0_1, .int .i64 a0_2, .int .i64 a0_3], .string a1] w fun e w' => ∃ v0_ : Value, e = .returned (.tuple #[.agg #[v0_, .bool r2, .int .i64 r3, .int .i64 r4], .int .i64 r5]) ∧ Kd.R k43 43 w' w.heap.size (fun _ => True) v0_ r1 ∧ Below w.heap.size w w' := by
  unfold disk_Remove.f at h
  have HE := Aside0.mk (Option.some.inj h)
  clear h
  have HR := Aside0.mk hr0_0
  have HC := Aside0.mk hc0_0
  clear hr0_0 hc0_0
  have HB := Aside0.mk (Below.refl w.heap.size w)
  go_enter Try.func13, Try.ntmps13
  go_wp2_with (first
    | ((with_reducible refine gate_dst (N := 2) rfl ?_);
        refine box_event ?hg (N := 2) ?hd (cs := #[.slice A0_0 l0_0.length c0_0, .bool a0_1, .int .i64 a0_2, .int .i64 a0_3]) (t := 24) ?hr ?_;
        (case hd => rfl); (case hg => rfl); (case hr => first | (go_simp; done) | (go_simp; rfl));
        intro gd hg w1 hbox hb;
        have n0_ := Aside0.mk (below_step HB.out hb);
        clear HB; have HB := n0_; have BKD := Aside0.mk hbox; clear n0_ hg hbox hb)
    | ((with_reducible refine gate_dst (N := 4) rfl ?_);
        refine box_event ?hg (N := 4) ?hd (cs := #[.slice none 0 0, .bool false, .int .i64 0, .int .i64 0]) (t := 24) ?hr ?_;
        (case hd => rfl); (case hg => rfl); (case hr => first | (go_simp; done) | (go_simp; rfl));
        intro gr hg w3 hbox hb;
        have n0_ := Aside0.mk (below_step HB.out hb); have n1_ := Aside0.mk (blk_below BKD.out hb);
        have GR := Aside0.mk (show w.heap.size ≤ gr by rw [hg]; exact HB.out.size);
        clear HB BKD; have HB := n0_; have BKD := n1_; have BKR := Aside0.mk hbox; clear n0_ n1_ hg hbox hb;
        have d0 : w3.cell? ⟨gd, 0, none⟩ = some (.slice A0_0 l0_0.length c0_0) := (blk_cell BKD.out 0).trans rfl;
        have d1 : w3.cell? ⟨gd, 1, none⟩ = some (.bool a0_1) := (blk_cell BKD.out 1).trans rfl;
        have d2 : w3.cell? ⟨gd, 2, none⟩ = some (.int .i64 a0_2) := (blk_cell BKD.out 2).trans rfl;
        have d3 : w3.cell? ⟨gd, 3, none⟩ = some (.int .i64 a0_3) := (blk_cell BKD.out 3).trans rfl)
    | fail)
  refine ((changed_any 37 _ (fun args w => enters_ Try.func37 (by kernel_rfl) (by kernel_rfl) args w) A0_0 c0_0 l0_0 a0_1 a0_2 a0_3 a1 w3 (Kd.C_below HR.out HB.out) HC.out false (fun _ b => if b = true then 0 else 7) (fun i => l0_0.take i.toNat ++ l0_0.drop (i.toNat + 1)) ?hof).mono ?_)
  case hof => exact remove_of w3 l0_0 a0_1 a0_2 a0_3 _ (fun i hi => by simp)
  rw [HE.out]
  rintro e w4 ⟨v, rfl, ho, hb⟩
  have HO := Aside0.mk (Kd.R_lower ho HB.out.size)
  obtain ⟨A4, c4, e4⟩ := Kd.R_slice ho
  subst e4
  have n0_ := Aside0.mk (below_step HB.out hb)
  have bk := blk_below BKR.out hb
  have c0 := (blk_cell bk 0).trans rfl
  have c1 := (blk_cell bk 1).trans rfl
  have c2 := (blk_cell bk 2).trans rfl
  have c3 := (blk_cell bk 3).trans rfl
  have f0 := blk_frozen bk 0
  have f1 := blk_frozen bk 1
  have f2 := blk_frozen bk 2
  have f3 := blk_frozen bk 3
  have BK4 := Aside0.mk bk
  clear ho hb bk HB BKD BKR d0 d1 d2 d3
  go_wp2
  refine bodyPost_ret (results_ct rfl _ _ gr 24 #[.slice A4 r1.length c4, .bool r2, .int .i64 r3, .int .i64 r4] (0, 0) _ rfl (put4 BK4.out _ _ _ _) Try.underlying24 rfl (by kernel_rfl)) rfl ?_
  exact ⟨_, rfl, R4 HO.out BK4.out (by decide) _ _ _ _, below4 n0_.out GR.out _ _ _ _⟩
end Go.Proofs.Ytanonhipicoigaa.T

namespace Go.Proofs.Ytanonhipicoigaa.T
open Go.RowKit Go.Proofs.YtanonhipicoigaaW.PrintWords Go.Proofs.YtanonhipicoigaaW.PrintLast Go.Proofs.YtanonhipicoigaaW.PrintMore
set_option linter.unusedVariables false
set_option linter.unusedSimpArgs false

theorem max2_mx (k k' : IntKind) (x y : Int) : Builtin.max2 (.int k x) (.int k' y) = pure (.int k (mx x y)) := max2_int k k' x y
theorem min2_mn (k k' : IntKind) (x y : Int) : Builtin.min2 (.int k x) (.int k' y) = pure (.int k (mn x y)) := min2_int k k' x y
theorem rd_at {l : List Int} {k : Nat} (h : k < l.length) : l[k]? = some (rd l (k : Int)) := by
  simp [rd, List.getElem?_eq_getElem h]
attribute [local go_sem] max2_mx min2_mn max_two min_two   -- for this text's walks alone

/-! ### Crash -/
def crashS (x : S43) : Option Int → Int
  | none => x.f2
  | some v => x.f2 + mn (mx v 0) ((x.f1.size : Int) - x.f2)
def crash1 (x : S43) (k : Option Int) : S43 := ⟨x.f0, x.f1.extract 0 (crashS x k).toNat, crashS x k⟩
/-- The files behind a crash. -/
def crashF (l : List S43) (ks : List Int) : List S43 := l.mapIdx fun i x => crash1 x ks[i]?
theorem crashF_length (l : List S43) (ks : List Int) : (crashF l ks).length = l.length := by simp [crashF]
theorem crashF_get {l : List S43} {ks : List Int} {i : Nat} {x : S43} (h : l[i]? = some x) : (crashF l ks)[i]? = some (crash1 x ks[i]?) := by
  simp [crashF, List.getElem?_mapIdx, h]
theorem crashS_range {x : S43} (h0 : 0 ≤ x.f2) (h1 : x.f2 ≤ (x.f1.size : Int)) (k : Option Int) : x.f2 ≤ crashS x k ∧ crashS x k ≤ (x.f1.size : Int) := by
  cases k with
  | none => exact ⟨Int.le_refl _, h1⟩
  | some v =>
    simp only [crashS]
    unfold mn mx
    split <;> split <;> omega
/-- The files when so many of them are done. -/
def crashK (l : List S43) (ks : List Int) (k : Nat) : List S43 := (crashF l ks).take k ++ l.drop k
theorem crashK_length (l : List S43) (ks : List Int) (k : Nat) (h : k ≤ l.length) : (crashK l ks k).length = l.length := by
  simp [crashK, crashF_length]; omega
theorem crashK_at {l : List S43} {ks : List Int} {k : Nat} {x : S43} (h : l[k]? = some x) : (crashK l ks k)[k]? = some x := by
  have hlt : k < l.length := (List.getElem?_eq_some_iff.1 h).1
  rw [crashK, List.getElem?_append_right (by simp [crashF_length]; omega)]
  simp [crashF_length]
  rw [show min k l.length = k by omega]
  simpa using h
theorem crashK_succ {l : List S43} {ks : List Int} {k : Nat} {x : S43} (h : l[k]? = some x) : (crashK l ks k).set k (crash1 x ks[k]?) = crashK l ks (k + 1) := by
  have hlt : k < l.length := (List.getElem?_eq_some_iff.1 h).1
  have hlen : ((crashF l ks).take k).length = k := by simp [crashF_length]; omega
  rw [crashK, crashK, List.set_append_right _ _ (by omega), hlen, Nat.sub_self]
  rw [List.drop_eq_getElem_cons hlt, List.set_cons_zero, List.take_succ_eq_append_getElem (by rw [crashF_length]; exact hlt)]
  have h2 := crashF_get (ks := ks) h
  rw [List.getElem?_eq_getElem (by rw [crashF_length]; exact hlt)] at h2
  rw [Option.some.inj h2]
  simp
def disk_Crash.f (l0_0 : List (S43)) (a0_1 : Bool) (a0_2 : Int) (a0_3 : Int) (l1 : List Int) : Option ((List (S43)) × Bool × Int × Int × Int) := some (if rightF l0_0 = true then (crashF l0_0 l1, false, -1, -1, 0) else ([], false, 0, 0, 6))
set_option maxHeartbeats 8000000 in
set_option maxRecDepth 100000 in
theorem disk_Crash.calls (A0_0 : Option Addr) (c0_0 : Nat) (l0_0 : List (S43)) (a0_1 : Bool) (a0_2 : Int) (a0_3 : Int) (A1 : Option Addr) (c1 : Nat) (l1 : List Int) (r1 : List (S43)) (r2 : Bool) (r3 : Int) (r4 : Int) (r5 : Int) (w : World) (hr0_0 : Kd.C k43 w A0_0 l0_0.length l0_0) (hc0_0 : l0_0.length ≤ c0_0) (hr1 : Kd.C (Kd.int .i64) w A1 l1.length l1) (hc1 : l1.length ≤ c1) (h : disk_Crash.f l0_0 a0_1 a0_2 a0_3 l1 = some (r1, r2, r3, r4, r5)) :
    Calls Try.prog 16 #[.agg #[.slice A0_0 l0_0.length c0_0, .bool a0_1, .int .i64 a0_2, .int .i64 a0_3], .slice A1 l1.length c1] w fun e w' => ∃ v0_ : Value, e = .returned (.tuple #[.agg #[v0_, .bool r2, .int .i64 r3, .int .i64 r4], .int .i64 r5]) ∧ Kd.R k43 43 w' w.heap.size (fun _ => True) v0_ r1 ∧ Below w.heap.size w w' := by
  unfold disk_Crash.f at h
  have HE := Aside0.mk (Option.some.inj h)
  clear h
  have HR := Aside0.mk hr0_0
  have HC := Aside0.mk hc0_0
  have HK1 := Aside0.mk hr1
  have hl1 : l1.length ≤ 9223372036854775807 := hr1.2.1
  clear hr0_0 hc0_0 hr1 hc1
  have HB := Aside0.mk (Below.refl w.heap.size w)
  go_enter Try.func16, Try.ntmps16
  go_wp2_with (first
    | ((with_reducible refine gate_dst (N := 2) rfl ?_);
        refine box_event ?hg (N := 2) ?hd (cs := #[.slice A0_0 l0_0.length c0_0, .bool a0_1, .int .i64 a0_2, .int .i64 a0_3]) (t := 24) ?hr ?_;
        (case hd => rfl); (case hg => rfl); (case hr => first | (go_simp; done) | (go_simp; rfl));
        intro gd hg w1 hbox hb;
        have n0_ := Aside0.mk (below_step HB.out hb);
        clear HB; have HB := n0_; have BKD := Aside0.mk hbox; clear n0_ hg hbox hb)
    | ((with_reducible refine gate_dst (N := 4) rfl ?_);
        refine box_event ?hg (N := 4) ?hd (cs := #[.slice none 0 0, .bool false, .int .i64 0, .int .i64 0]) (t := 24) ?hr ?_;
        (case hd => rfl); (case hg => rfl); (case hr => first | (go_simp; done) | (go_simp; rfl));
        intro gr hg w3 hbox hb;
        have n0_ := Aside0.mk (below_step HB.out hb); have n1_ := Aside0.mk (blk_below BKD.out hb);
        have GR := Aside0.mk (show w.heap.size ≤ gr by rw [hg]; exact HB.out.size);
        clear HB BKD; have HB := n0_; have BKD := n1_; have BKR := Aside0.mk hbox; clear n0_ n1_ hg hbox hb;
        have d0 : w3.cell? ⟨gd, 0, none⟩ = some (.slice A0_0 l0_0.length c0_0) := (blk_cell BKD.out 0).trans rfl;
        have d1 : w3.cell? ⟨gd, 1, none⟩ = some (.bool a0_1) := (blk_cell BKD.out 1).trans rfl;
        have d2 : w3.cell? ⟨gd, 2, none⟩ = some (.int .i64 a0_2) := (blk_cell BKD.out 2).trans rfl;
        have d3 : w3.cell? ⟨gd, 3, none⟩ = some (.int .i64 a0_3) := (blk_cell BKD.out 3).trans rfl)
    | fail)
  by_cases hok : rightF l0_0 = true
  · have HE2 : Aside0 ((crashF l0_0 l1, false, (-1 : Int), (-1 : Int), (0 : Int)) = (r1, r2, r3, r4, r5)) := ⟨by have := HE.out; rwa [if_pos hok] at this⟩
    have hle : l0_0.length ≤ 64 := by
      simp only [rightF, Bool.and_eq_true, decide_eq_true_eq] at hok
      exact hok.2
    have HOK := Aside0.mk hok
    refine ((disk_Check.calls A0_0 c0_0 l0_0 a0_1 a0_2 a0_3 0 w3 (Kd.C_below HR.out HB.out) HC.out (by rw [disk_Check.f, if_pos hok])).mono ?_)
    clear hok HE
    rintro e w4 ⟨rfl, hb⟩
    have n0_ := Aside0.mk (below_step HB.out hb); have n1_ := Aside0.mk (blk_below BKD.out hb); have n2_ := Aside0.mk (blk_below BKR.out hb)
    clear HB BKD BKR d0 d1 d2 d3 hb; have HB := n0_; have BKD := n1_; have BKR := n2_; clear n0_ n1_ n2_
    have d0 : w4.cell? ⟨gd, 0, none⟩ = some (.slice A0_0 l0_0.length c0_0) := (blk_cell BKD.out 0).trans rfl
    go_wp2_with fail
    refine ((api_File.calls A0_0 c0_0 l0_0 l0_0 w4 (Kd.C_below HR.out HB.out) HC.out (by rw [api_File.f, if_pos (by omega)])).mono ?_)
    rintro e w5 ⟨v, rfl, ho, hb⟩
    have n0_ := Aside0.mk (below_step HB.out hb); have n2_ := Aside0.mk (blk_below BKR.out hb); have HO := Aside0.mk (Kd.R_lower ho HB.out.size)
    obtain ⟨A, c, e⟩ := Kd.R_slice ho
    subst e
    clear HB BKD BKR d0 hb ho; have HB := n0_; have BKR := n2_; clear n0_ n2_
    go_wp2_with (first
      | ((with_reducible refine gate_dst (N := 7) rfl ?_);
          refine box_event ?hg (N := 7) ?hd (cs := #[.slice none 0 0, .bool false, .int .i64 0, .int .i64 0]) (t := 24) ?hr ?_;
          (case hd => rfl); (case hg => rfl); (case hr => first | (go_simp; done) | (go_simp; rfl));
          intro go hg w6 hbox hb;
          have n0_ := Aside0.mk (below_step HB.out hb); have n1_ := Aside0.mk (blk_below BKR.out hb); have n2_ := Aside0.mk (Kd.R_below HO.out hb);
          have GO := Aside0.mk (show w.heap.size ≤ go by rw [hg]; exact HB.out.size); have NRO := Aside0.mk (show gr ≠ go by rw [hg]; exact Nat.ne_of_lt (blk_lt BKR.out));
          clear HB BKR HO; have HB := n0_; have BKR := n1_; have HO := n2_; have BKO := Aside0.mk hbox; clear n0_ n1_ n2_ hg hbox hb;
          have o0 : w6.cell? ⟨go, 0, none⟩ = some (.slice none 0 0) := (blk_cell BKO.out 0).trans rfl;
          have o1 : w6.cell? ⟨go, 1, none⟩ = some (.bool false) := (blk_cell BKO.out 1).trans rfl;
          have o2 : w6.cell? ⟨go, 2, none⟩ = some (.int .i64 0) := (blk_cell BKO.out 2).trans rfl;
          have o3 : w6.cell? ⟨go, 3, none⟩ = some (.int .i64 0) := (blk_cell BKO.out 3).trans rfl;
          have of0 := blk_frozen BKO.out 0; have of1 := blk_frozen BKO.out 1; have of2 := blk_frozen BKO.out 2; have of3 := blk_frozen BKO.out 3)
      | fail)
    go_loopw [23] (fun v23 wr => ∃ k : Nat, v23 = .int .i64 (k : Int) ∧ k ≤ l0_0.length ∧ Aside0 (Below w.heap.size w wr) ∧ Aside0 (wr.heap[gr]? = some (.cells #[.slice none 0 0, .bool false, .int .i64 0, .int .i64 0] 24 (0, 0)))
        ∧ Aside0 (wr.heap[go]? = some (.cells #[.slice A l0_0.length c, .bool false, .int .i64 (-1), .int .i64 (-1)] 24 (0, 0))) ∧ Aside0 (Kd.R k43 43 wr w.heap.size (fun _ => True) (.slice A l0_0.length c) (crashK l0_0 l1 k)))
      (fun v23 _ => l0_0.length - (intOf v23).toNat)
    case atStart =>
      refine ⟨0, rfl, by omega, ⟨below4 HB.out GO.out _ _ _ _⟩, ⟨far4 BKR.out NRO.out _ _ _ _⟩, ⟨put4 BKO.out _ _ _ _⟩, ⟨?_⟩⟩
      have e : crashK l0_0 l1 0 = l0_0 := by simp [crashK]
      rw [e]
      exact R4 HO.out BKO.out (by decide) _ _ _ _
    case round =>
      clear HB BKR BKO HO o0 o1 o2 o3 of0 of1 of2 of3
      obtain ⟨k, rfl, hkn, HB, BKR, BKO, HO⟩ := hrel
      by_cases hlt : k < l0_0.length
      · obtain ⟨x, hx⟩ : ∃ x, l0_0[k]? = some x := ⟨_, List.getElem?_eq_getElem hlt⟩
        have hck := crashK_length l0_0 l1 k hkn
        have hxk := crashK_at (ks := l1) hx
        have ⟨e0, e1, e2⟩ := cellsOf_get _ k x hxk
        rw [← hck] at HO
        obtain ⟨g, cur, hA, _, hg, hh, h3, h4, h5, h6⟩ := R_block HO.out (by omega)
        subst hA
        rw [hck] at HO h3
        have s1 : wr.cell? ⟨go, 0, none⟩ = some (.slice (some ⟨g, 0, none⟩) l0_0.length c) := (blk_cell BKO.out 0).trans rfl
        have s3 : wr.cell? ⟨g, k * 3 + 1, none⟩ = some (.string x.f1) := R_cell hh h6 e1
        have s4 : wr.cell? ⟨g, k * 3 + 2, none⟩ = some (.int .i64 x.f2) := R_cell hh h6 e2
        have s5 := blk_frozen hh (k * 3 + 2)
        have s6 := blk_frozen hh (k * 3 + 1)
        have NGO := Aside0.mk (show g ≠ go from other_block hh BKO.out (by decide))
        have NGR := Aside0.mk (show g ≠ gr from other_block hh BKR.out (by decide))
        have HG := Aside0.mk hg
        have HH := Aside0.mk hh
        have HX := Aside0.mk hx
        have HXK := Aside0.mk hxk
        have hr2 := right_get HOK.out hx
        have hi0 : (0 : Int) ≤ (k : Int) := by omega
        have hi1 : (k : Int) < (l0_0.length : Int) := by omega
        clear hh hg h4 h5 h6 e0 e1 e2 hx hxk hck
        by_cases hk2 : k < l1.length
        · obtain ⟨ad, e, hkc⟩ := Kd.at_int HK1.out (k : Int) (by omega) (by omega)
          subst e
          have hkb := World.block_lt_of_cell? w _ hkc
          have hne : ad.block ≠ g := fun e => by rw [add_block] at hkb; have := HG.out; omega
          have hkc' := (HB.out.cell hkb).trans hkc
          clear hkc hkb
          have hi2 : (k : Int) < (l1.length : Int) := by omega
          simp only [Int.toNat_natCast] at hkc'
          have hS := crashS_range hr2.2.2.1 hr2.2.2.2 (some (rd l1 (k : Int)))
          simp only [crashS] at hS
          have hm1 : 0 ≤ mn (mx (rd l1 (k : Int)) 0) ((x.f1.size : Int) - x.f2) := by omega
          have hm2 : mn (mx (rd l1 (k : Int)) 0) ((x.f1.size : Int) - x.f2) ≤ (x.f1.size : Int) - x.f2 := by omega
          go_wp2
          go_region
          go_wp2
          go_region
          go_wp2
          have el : l1[k]? = some (rd l1 (k : Int)) := rd_at hk2
          obtain ⟨q, hq⟩ : ∃ q, q = crashS x (some (rd l1 (k : Int))) := ⟨_, rfl⟩
          have e : crashK l0_0 l1 (k + 1) = (((crashK l0_0 l1 k).set k ⟨x.f0, x.f1, q⟩).set k ⟨x.f0, x.f1.extract 0 q.toNat, q⟩) := by
            rw [← crashK_succ (ks := l1) HX.out, el, List.set_set, crash1, ← hq]
          rw [show x.f2 + mn (mx (rd l1 (k : Int)) 0) ((x.f1.size : Int) - x.f2) = q from hq.symm]
          refine ⟨⟨k + 1, by congr 1, by omega, ⟨below_drew (below_set (below_drew (below_set HB.out HG.out)) HG.out)⟩,
            ⟨blk_drew (blk_far (p := ⟨g, k * 3 + 1, none⟩) (blk_drew (blk_far (p := ⟨g, k * 3 + 2, none⟩) BKR.out (fun e => NGR.out e.symm) _)) (fun e => NGR.out e.symm) _)⟩,
            ⟨blk_drew (blk_far (p := ⟨g, k * 3 + 1, none⟩) (blk_drew (blk_far (p := ⟨g, k * 3 + 2, none⟩) BKO.out (fun e => NGO.out e.symm) _)) (fun e => NGO.out e.symm) _)⟩, ⟨?_⟩⟩, by simp [intOf]; omega⟩
          have ho := HO.out
          rw [← crashK_length l0_0 l1 k hkn] at ho
          have h := R_put (u := .int .i64 q) ho (l' := (crashK l0_0 l1 k).set k ⟨x.f0, x.f1, q⟩) (by rw [List.length_set]) (cellsOf_set2 _ k x _ HXK.out) (j := k * 3 + 2) (by rw [crashK_length l0_0 l1 k hkn]; omega)
          have h := R_put (u := .string (x.f1.extract 0 q.toNat)) h (l' := ((crashK l0_0 l1 k).set k ⟨x.f0, x.f1, q⟩).set k ⟨x.f0, x.f1.extract 0 q.toNat, q⟩) (by rw [List.length_set]) (cellsOf_set1 _ k ⟨x.f0, x.f1, q⟩ _ (by rw [List.getElem?_set_self (by rw [crashK_length l0_0 l1 k hkn]; omega)])) (j := k * 3 + 1) (by rw [List.length_set, crashK_length l0_0 l1 k hkn]; omega)
          rw [List.length_set, List.length_set, crashK_length l0_0 l1 k hkn, ← e] at h
          exact h
        · go_wp2
          go_region
          go_wp2
          have e : crashK l0_0 l1 (k + 1) = ((crashK l0_0 l1 k).set k ⟨x.f0, x.f1.extract 0 x.f2.toNat, x.f2⟩) := by
            rw [← crashK_succ (ks := l1) HX.out, List.getElem?_eq_none (by omega)]
            rfl
          refine ⟨⟨k + 1, by congr 1, by omega, ⟨below_drew (below_set HB.out HG.out)⟩, ⟨blk_drew (blk_far (p := ⟨g, k * 3 + 1, none⟩) BKR.out (fun e => NGR.out e.symm) _)⟩, ⟨blk_drew (blk_far (p := ⟨g, k * 3 + 1, none⟩) BKO.out (fun e => NGO.out e.symm) _)⟩, ⟨?_⟩⟩, by simp [intOf]; omega⟩
          have ho := HO.out
          rw [← crashK_length l0_0 l1 k hkn] at ho
          have h := R_put (u := .string (x.f1.extract 0 x.f2.toNat)) ho (l' := (crashK l0_0 l1 k).set k ⟨x.f0, x.f1.extract 0 x.f2.toNat, x.f2⟩) (by rw [List.length_set]) (cellsOf_set1 _ k x _ HXK.out) (j := k * 3 + 1) (by rw [crashK_length l0_0 l1 k hkn]; omega)
          rw [List.length_set, crashK_length l0_0 l1 k hkn, ← e] at h
          exact h
      · obtain rfl : k = l0_0.length := by omega
        have o0 : wr.cell? ⟨go, 0, none⟩ = some (.slice A l0_0.length c) := (blk_cell BKO.out 0).trans rfl
        have o1 : wr.cell? ⟨go, 1, none⟩ = some (.bool false) := (blk_cell BKO.out 1).trans rfl
        have o2 : wr.cell? ⟨go, 2, none⟩ = some (.int .i64 (-1)) := (blk_cell BKO.out 2).trans rfl
        have o3 : wr.cell? ⟨go, 3, none⟩ = some (.int .i64 (-1)) := (blk_cell BKO.out 3).trans rfl
        have b0 : wr.cell? ⟨gr, 0, none⟩ = some (.slice none 0 0) := (blk_cell BKR.out 0).trans rfl
        have b1 : wr.cell? ⟨gr, 1, none⟩ = some (.bool false) := (blk_cell BKR.out 1).trans rfl
        have b2 : wr.cell? ⟨gr, 2, none⟩ = some (.int .i64 0) := (blk_cell BKR.out 2).trans rfl
        have b3 : wr.cell? ⟨gr, 3, none⟩ = some (.int .i64 0) := (blk_cell BKR.out 3).trans rfl
        have bf0 := blk_frozen BKR.out 0
        have bf1 := blk_frozen BKR.out 1
        have bf2 := blk_frozen BKR.out 2
        have bf3 := blk_frozen BKR.out 3
        go_wp2_with fail
        refine bodyPost_ret (results_ct rfl _ _ gr 24 #[.slice A l0_0.length c, .bool false, .int .i64 (-1), .int .i64 (-1)] (0, 0) _ rfl (put4 BKR.out _ _ _ _) Try.underlying24 rfl (by kernel_rfl)) rfl ?_
        have e := HE2.out
        simp only [Prod.mk.injEq] at e
        obtain ⟨rfl, rfl, rfl, rfl, rfl⟩ := e
        have e : crashK l0_0 l1 l0_0.length = crashF l0_0 l1 := by
          rw [crashK, List.take_of_length_le (by rw [crashF_length]; omega), List.drop_length, List.append_nil]
        rw [← e]
        exact ⟨_, rfl, R4 HO.out BKR.out (by decide) _ _ _ _, below4 HB.out GR.out _ _ _ _⟩
  · refine ((disk_Check.calls A0_0 c0_0 l0_0 a0_1 a0_2 a0_3 6 w3 (Kd.C_below HR.out HB.out) HC.out (by rw [disk_Check.f, if_neg hok])).mono ?_)
    have HE2 : Aside0 ((([] : List S43), false, (0 : Int), (0 : Int), (6 : Int)) = (r1, r2, r3, r4, r5)) := ⟨by have := HE.out; rwa [if_neg hok] at this⟩
    clear hok HE
    rintro e w4 ⟨rfl, hb⟩
    have n0_ := Aside0.mk (below_step HB.out hb); have n2_ := Aside0.mk (blk_below BKR.out hb)
    clear HB BKD BKR d0 d1 d2 d3 hb; have HB := n0_; have BKR := n2_; clear n0_ n2_
    have b0 : w4.cell? ⟨gr, 0, none⟩ = some (.slice none 0 0) := (blk_cell BKR.out 0).trans rfl
    have b1 : w4.cell? ⟨gr, 1, none⟩ = some (.bool false) := (blk_cell BKR.out 1).trans rfl
    have b2 : w4.cell? ⟨gr, 2, none⟩ = some (.int .i64 0) := (blk_cell BKR.out 2).trans rfl
    have b3 : w4.cell? ⟨gr, 3, none⟩ = some (.int .i64 0) := (blk_cell BKR.out 3).trans rfl
    have bf0 := blk_frozen BKR.out 0
    have bf1 := blk_frozen BKR.out 1
    have bf2 := blk_frozen BKR.out 2
    have bf3 := blk_frozen BKR.out 3
    go_wp2_with fail
    refine bodyPost_ret (results_ct rfl _ _ gr 24 #[.slice none 0 0, .bool false, .int .i64 0, .int .i64 0] (0, 0) _ rfl (put4 BKR.out _ _ _ _) Try.underlying24 rfl (by kernel_rfl)) rfl ?_
    have e := HE2.out
    simp only [Prod.mk.injEq] at e
    obtain ⟨rfl, rfl, rfl, rfl, rfl⟩ := e
    exact ⟨_, rfl, Kd.R_nil _ _ _ _ _, below4 HB.out GR.out _ _ _ _⟩

end Go.Proofs.Ytanonhipicoigaa.T
