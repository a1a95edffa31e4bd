import Derived.Test.YtanonhipicoigaaGreatDoorZSac
import Derived.RegionTactic
import Derived.BigRegion
import Derived.Deep.RegionLaw
import Derived.Lib.SliceRun
import Derived.RangeFuncNested
import Derived.RangeFuncLeaves
import Derived.RangeFuncCalls
import Derived.WalkLawsBesides
import Derived.Shelf.Strings.Builder1
import Derived.Shelf.Strings.Builder2
import Derived.Shelf.LaysM
import Derived.Shelf.LaysC
import Derived.Shelf.Strconv.Clone
import Derived.Shelf.Strconv.SyntaxError
import Derived.Shelf.Strconv.ToError
import Derived.Shelf.Strconv.Lower
import Derived.Shelf.Strconv.RangeError
import Derived.Shelf.Strconv.ToErrorRange
import Derived.Shelf.Bits.Mul64
import Derived.Shelf.Strings.Repeat
import Derived.Test.YtanonhipicoigaaGreatDoorProg
import Derived.Lib.Repeat
namespace Go.Proofs.YtanonhipicoigaaGreatDoor.U
open Go.RowKit Go.Proofs.YtanonhipicoigaaGreatDoorW.PrintWords Go.Proofs.YtanonhipicoigaaGreatDoorW.PrintLast Go.Proofs.YtanonhipicoigaaGreatDoorW.PrintMore
set_option linter.unusedVariables false
set_option linter.unusedSimpArgs false
/-! ### cut -/
/-- What cutting refuses. -/
def rfT (size : Int) (l : List S67) (i : Int) (b : Bool) : Int := if b = true then (if size < 0 ∨ ((rd_T67 l i).f1.size : Int) < size then 2 else 0) else 7
theorem enters51 : Enters 163 := fun args w => enters_ Tryz.func163 (by kernel_rfl) (by kernel_rfl) args w
theorem enters52 : Enters 164 := fun args w => enters_ Tryz.func164 (by kernel_rfl) (by kernel_rfl) args w
theorem cut_unknown (w : World) (v2 v1 : Value) (size : Int) (l : List S67) (i : Int) :
    Calls Tryz.prog 163 #[.int .i64 i, .bool false, v2, v1] w fun e w' => e = .returned (.int .i64 (rfT size l i false)) ∧ w = w' := by
  go_enter Tryz.func163, Tryz.ntmps163
  go_wp2_with (go_at_call 160; refine (there_any _ _ _).mono ?_; rintro e w' ⟨rfl, rfl⟩)
  go_ret
  exact ⟨rfl, rfl⟩
set_option maxHeartbeats 4000000 in
set_option maxRecDepth 100000 in
theorem cut_refuse (w : World) (gp b1 b2 g : Nat) (cur : Array Value) (size : Int) (l : List S67) (c : Nat) (i : Nat) (x : S67) (hx : l[i]? = some x) (hn : l.length ≤ 64) (s3 : w.cell? ⟨b2, 0, none⟩ = some (.int .i64 size)) (s1 : w.cell? ⟨b1, 0, none⟩ = some (.pointer (some ⟨gp, 0, none⟩)))
    (s2 : w.cell? ⟨gp, 0, none⟩ = some (.slice (some ⟨g, 0, none⟩) l.length c)) (hh : w.heap[g]? = some (.cells cur 67 (0, 0))) (h6 : cur.toList.take (l.length * 3) = cellsOf l) :
    Calls Tryz.prog 163 #[.int .i64 (i : Int), .bool true, .pointer (some ⟨b2, 0, none⟩), .pointer (some ⟨b1, 0, none⟩)] w fun e w' => e = .returned (.int .i64 (rfT size l i true)) ∧ Below w.heap.size w w' := by
  have hlt : i < l.length := (List.getElem?_eq_some_iff.1 hx).1
  obtain ⟨e0, e1, e2⟩ := cellsOf_get l i x hx
  have s4 : w.cell? ⟨g, i * 3 + 1, none⟩ = some (.string x.f1) := R_cell hh h6 e1
  have hi0 : (0 : Int) ≤ (i : Int) := by omega
  have hi1 : (i : Int) < (l.length : Int) := by omega
  obtain ⟨R, hR⟩ : ∃ R, R = rfT size l i true := ⟨_, rfl⟩
  rw [← hR]
  have HR : Aside0 (R = if size < 0 ∨ (x.f1.size : Int) < size then 2 else 0) := ⟨by rw [hR, rfT, if_pos rfl, rd_get hx]⟩
  clear hR hx hh h6 e0 e1 e2
  by_cases hs : size < 0
  · have HE : Aside0 (R = 2) := ⟨by rw [HR.out, if_pos (.inl hs)]⟩
    have hd : decide (size < 0) = true := by simpa using hs
    clear hs
    go_enter Tryz.func163, Tryz.ntmps163
    go_wp2_with (go_at_call 160; refine (there_any _ _ _).mono ?_; rintro e w' ⟨rfl, rfl⟩)
    refine start_ (n := 16) (S := fun w' => w'.cell? ⟨b2, 0, none⟩ = some (.int .i64 size) ∧ w'.cell? ⟨b1, 0, none⟩ = some (.pointer (some ⟨gp, 0, none⟩)) ∧ w'.cell? ⟨gp, 0, none⟩ = some (.slice (some ⟨g, 0, none⟩) l.length c) ∧ w'.cell? ⟨g, i * 3 + 1, none⟩ = some (.string x.f1)) (ds := []) #[false, false, false, false, false, false, false, false, false, false, false, false, false, false, false, false] (by kernel_rfl) rfl rfl ⟨s3, s1, s2, s4⟩ (fun hHeld => ?_)
    refine take_ (i := 0) (N := some 14) (v := ?_) (a' := ?_) #[true, false, false, false, false, false, false, false, false, false, false, false, false, false, false, false] rfl rfl (by kernel_rfl) (fun _ _ _ h => h) (Or.inl ⟨by rfl, ?_⟩) hHeld ?_ ?_
    rotate_left
    · rintro w' ⟨s0, s1, s2, s3⟩
      go_simp
      with_reducible rfl
    rotate_left
    · simp only [Act.put, List.setIfInBounds_toArray, List.set_cons_zero, List.set_cons_succ, i64_w, i32_w]
      rfl
    refine pure_ (i := 1) (N := some 15) (v := ?_) (a' := ?_) #[true, true, false, false, false, false, false, false, false, false, false, false, false, false, false, false] rfl rfl (by kernel_rfl) (fun _ _ _ h => h) (Or.inl ⟨by rfl, ?_⟩) ?_ ?_
    rotate_left
    · intro w'
      go_simp
      with_reducible rfl
    rotate_left
    · simp only [Act.put, List.setIfInBounds_toArray, List.set_cons_zero, List.set_cons_succ, i64_w, i32_w]
      rfl
    refine pure_ (i := 2) (N := some 16) (v := ?_) (a' := ?_) #[true, true, true, false, false, false, false, false, false, false, false, false, false, false, false, false] rfl rfl (by kernel_rfl) (fun _ _ _ h => h) (Or.inl ⟨by rfl, ?_⟩) ?_ ?_
    rotate_left
    · intro w'
      go_simp
      with_reducible rfl
    rotate_left
    · simp only [Act.put, List.setIfInBounds_toArray, List.set_cons_zero, List.set_cons_succ, i64_w, i32_w]
      rfl
    refine pure_ (i := 3) (N := some 17) (v := undef) (a' := ?_) #[true, true, true, true, false, false, false, false, false, false, false, false, false, false, false, false] rfl rfl (by kernel_rfl) (fun _ _ _ h => h) (Or.inr ⟨by rfl, rfl⟩) ?_ ?_
    rotate_left
    · simp only [Act.put, List.setIfInBounds_toArray, List.set_cons_zero, List.set_cons_succ, i64_w, i32_w]
      rfl
    refine pure_ (i := 4) (N := some 18) (v := undef) (a' := ?_) #[true, true, true, true, true, false, false, false, false, false, false, false, false, false, false, false] rfl rfl (by kernel_rfl) (fun _ _ _ h => h) (Or.inr ⟨by rfl, rfl⟩) ?_ ?_
    rotate_left
    · simp only [Act.put, List.setIfInBounds_toArray, List.set_cons_zero, List.set_cons_succ, i64_w, i32_w]
      rfl
    refine pure_ (i := 5) (N := some 19) (v := undef) (a' := ?_) #[true, true, true, true, true, true, false, false, false, false, false, false, false, false, false, false] rfl rfl (by kernel_rfl) (fun _ _ _ h => h) (Or.inr ⟨by rfl, rfl⟩) ?_ ?_
    rotate_left
    · simp only [Act.put, List.setIfInBounds_toArray, List.set_cons_zero, List.set_cons_succ, i64_w, i32_w]
      rfl
    refine pure_ (i := 6) (N := some 20) (v := undef) (a' := ?_) #[true, true, true, true, true, true, true, false, false, false, false, false, false, false, false, false] rfl rfl (by kernel_rfl) (fun _ _ _ h => h) (Or.inr ⟨by rfl, rfl⟩) ?_ ?_
    rotate_left
    · simp only [Act.put, List.setIfInBounds_toArray, List.set_cons_zero, List.set_cons_succ, i64_w, i32_w]
      rfl
    refine pure_ (i := 7) (N := some 21) (v := undef) (a' := ?_) #[true, true, true, true, true, true, true, true, false, false, false, false, false, false, false, false] rfl rfl (by kernel_rfl) (fun _ _ _ h => h) (Or.inr ⟨by rfl, rfl⟩) ?_ ?_
    rotate_left
    · simp only [Act.put, List.setIfInBounds_toArray, List.set_cons_zero, List.set_cons_succ, i64_w, i32_w]
      rfl
    refine pure_ (i := 8) (N := some 22) (v := undef) (a' := ?_) #[true, true, true, true, true, true, true, true, true, false, false, false, false, false, false, false] rfl rfl (by kernel_rfl) (fun _ _ _ h => h) (Or.inr ⟨by rfl, rfl⟩) ?_ ?_
    rotate_left
    · simp only [Act.put, List.setIfInBounds_toArray, List.set_cons_zero, List.set_cons_succ, i64_w, i32_w]
      rfl
    refine pure_ (i := 9) (N := some 23) (v := undef) (a' := ?_) #[true, true, true, true, true, true, true, true, true, true, false, false, false, false, false, false] rfl rfl (by kernel_rfl) (fun _ _ _ h => h) (Or.inr ⟨by rfl, rfl⟩) ?_ ?_
    rotate_left
    · simp only [Act.put, List.setIfInBounds_toArray, List.set_cons_zero, List.set_cons_succ, i64_w, i32_w]
      rfl
    refine pure_ (i := 10) (N := some 24) (v := undef) (a' := ?_) #[true, true, true, true, true, true, true, true, true, true, true, false, false, false, false, false] rfl rfl (by kernel_rfl) (fun _ _ _ h => h) (Or.inr ⟨by rfl, rfl⟩) ?_ ?_
    rotate_left
    · simp only [Act.put, List.setIfInBounds_toArray, List.set_cons_zero, List.set_cons_succ, i64_w, i32_w]
      rfl
    refine pure_ (i := 11) (N := some 25) (v := undef) (a' := ?_) #[true, true, true, true, true, true, true, true, true, true, true, true, false, false, false, false] rfl rfl (by kernel_rfl) (fun _ _ _ h => h) (Or.inr ⟨by rfl, rfl⟩) ?_ ?_
    rotate_left
    · simp only [Act.put, List.setIfInBounds_toArray, List.set_cons_zero, List.set_cons_succ, i64_w, i32_w]
      rfl
    refine pure_ (i := 12) (N := some 26) (v := undef) (a' := ?_) #[true, true, true, true, true, true, true, true, true, true, true, true, true, false, false, false] rfl rfl (by kernel_rfl) (fun _ _ _ h => h) (Or.inr ⟨by rfl, rfl⟩) ?_ ?_
    rotate_left
    · simp only [Act.put, List.setIfInBounds_toArray, List.set_cons_zero, List.set_cons_succ, i64_w, i32_w]
      rfl
    refine pure_ (i := 13) (N := some 27) (v := undef) (a' := ?_) #[true, true, true, true, true, true, true, true, true, true, true, true, true, true, false, false] rfl rfl (by kernel_rfl) (fun _ _ _ h => h) (Or.inr ⟨by rfl, rfl⟩) ?_ ?_
    rotate_left
    · simp only [Act.put, List.setIfInBounds_toArray, List.set_cons_zero, List.set_cons_succ, i64_w, i32_w]
      rfl
    refine pure_ (i := 14) (N := some 28) (v := undef) (a' := ?_) #[true, true, true, true, true, true, true, true, true, true, true, true, true, true, true, false] rfl rfl (by kernel_rfl) (fun _ _ _ h => h) (Or.inr ⟨by rfl, rfl⟩) ?_ ?_
    rotate_left
    · simp only [Act.put, List.setIfInBounds_toArray, List.set_cons_zero, List.set_cons_succ, i64_w, i32_w]
      rfl
    refine pure_ (i := 15) (N := some 29) (v := ?_) (a' := ?_) #[true, true, true, true, true, true, true, true, true, true, true, true, true, true, true, true] rfl rfl (by kernel_rfl) (fun _ _ _ h => h) (Or.inl ⟨by rfl, ?_⟩) ?_ ?_
    rotate_left
    · intro w'
      go_simp
      with_reducible rfl
    rotate_left
    · simp only [Act.put, List.setIfInBounds_toArray, List.set_cons_zero, List.set_cons_succ, i64_w, i32_w]
      rfl
    refine done_ (by kernel_rfl) ?_
    go_wp2
    go_ret
    exact ⟨by rw [HE.out]; rfl, below_drew (Below.refl _ _)⟩
  · have hd : decide (size < 0) = false := by simpa using hs
    by_cases hb : (x.f1.size : Int) < size
    · have HE : Aside0 (R = 2) := ⟨by rw [HR.out, if_pos (.inr hb)]⟩
      have hd2 : decide ((x.f1.size : Int) < size) = true := by simpa using hb
      clear hs hb
      go_enter Tryz.func163, Tryz.ntmps163
      go_wp2_with (go_at_call 160; refine (there_any _ _ _).mono ?_; rintro e w' ⟨rfl, rfl⟩)
      refine start_ (n := 16) (S := fun w' => w'.cell? ⟨b2, 0, none⟩ = some (.int .i64 size) ∧ w'.cell? ⟨b1, 0, none⟩ = some (.pointer (some ⟨gp, 0, none⟩)) ∧ w'.cell? ⟨gp, 0, none⟩ = some (.slice (some ⟨g, 0, none⟩) l.length c) ∧ w'.cell? ⟨g, i * 3 + 1, none⟩ = some (.string x.f1)) (ds := []) #[false, false, false, false, false, false, false, false, false, false, false, false, false, false, false, false] (by kernel_rfl) rfl rfl ⟨s3, s1, s2, s4⟩ (fun hHeld => ?_)
      refine take_ (i := 0) (N := some 14) (v := ?_) (a' := ?_) #[true, false, false, false, false, false, false, false, false, false, false, false, false, false, false, false] rfl rfl (by kernel_rfl) (fun _ _ _ h => h) (Or.inl ⟨by rfl, ?_⟩) hHeld ?_ ?_
      rotate_left
      · rintro w' ⟨s0, s1, s2, s3⟩
        go_simp
        with_reducible rfl
      rotate_left
      · simp only [Act.put, List.setIfInBounds_toArray, List.set_cons_zero, List.set_cons_succ, i64_w, i32_w]
        rfl
      refine pure_ (i := 1) (N := some 15) (v := ?_) (a' := ?_) #[true, true, false, false, false, false, false, false, false, false, false, false, false, false, false, false] rfl rfl (by kernel_rfl) (fun _ _ _ h => h) (Or.inl ⟨by rfl, ?_⟩) ?_ ?_
      rotate_left
      · intro w'
        go_simp
        with_reducible rfl
      rotate_left
      · simp only [Act.put, List.setIfInBounds_toArray, List.set_cons_zero, List.set_cons_succ, i64_w, i32_w]
        rfl
      refine pure_ (i := 2) (N := some 16) (v := ?_) (a' := ?_) #[true, true, true, false, false, false, false, false, false, false, false, false, false, false, false, false] rfl rfl (by kernel_rfl) (fun _ _ _ h => h) (Or.inl ⟨by rfl, ?_⟩) ?_ ?_
      rotate_left
      · intro w'
        go_simp
        with_reducible rfl
      rotate_left
      · simp only [Act.put, List.setIfInBounds_toArray, List.set_cons_zero, List.set_cons_succ, i64_w, i32_w]
        rfl
      refine pure_ (i := 9) (N := some 23) (v := ?_) (a' := ?_) #[true, true, true, false, false, false, false, false, false, true, false, false, false, false, false, false] rfl rfl (by kernel_rfl) (fun _ _ _ h => h) (Or.inl ⟨by rfl, ?_⟩) ?_ ?_
      rotate_left
      · intro w'
        go_simp
        with_reducible rfl
      rotate_left
      · simp only [Act.put, List.setIfInBounds_toArray, List.set_cons_zero, List.set_cons_succ, i64_w, i32_w]
        rfl
      refine take_ (i := 3) (N := some 17) (v := ?_) (a' := ?_) #[true, true, true, true, false, false, false, false, false, true, false, false, false, false, false, false] rfl rfl (by kernel_rfl) (fun _ _ _ h => h) (Or.inl ⟨by rfl, ?_⟩) hHeld ?_ ?_
      rotate_left
      · rintro w' ⟨s0, s1, s2, s3⟩
        go_simp
        with_reducible rfl
      rotate_left
      · simp only [Act.put, List.setIfInBounds_toArray, List.set_cons_zero, List.set_cons_succ, i64_w, i32_w]
        rfl
      refine take_ (i := 4) (N := some 18) (v := ?_) (a' := ?_) #[true, true, true, true, true, false, false, false, false, true, false, false, false, false, false, false] rfl rfl (by kernel_rfl) (fun _ _ _ h => h) (Or.inl ⟨by rfl, ?_⟩) hHeld ?_ ?_
      rotate_left
      · rintro w' ⟨s0, s1, s2, s3⟩
        go_simp
        with_reducible rfl
      rotate_left
      · simp only [Act.put, List.setIfInBounds_toArray, List.set_cons_zero, List.set_cons_succ, i64_w, i32_w]
        rfl
      refine pure_ (i := 5) (N := some 19) (v := ?_) (a' := ?_) #[true, true, true, true, true, true, false, false, false, true, false, false, false, false, false, false] rfl rfl (by kernel_rfl) (fun _ _ _ h => h) (Or.inl ⟨by rfl, ?_⟩) ?_ ?_
      rotate_left
      · intro w'
        go_simp
        with_reducible rfl
      rotate_left
      · simp only [Act.put, List.setIfInBounds_toArray, List.set_cons_zero, List.set_cons_succ, i64_w, i32_w]
        rfl
      refine pure_ (i := 6) (N := some 20) (v := ?_) (a' := ?_) #[true, true, true, true, true, true, true, false, false, true, false, false, false, false, false, false] rfl rfl (by kernel_rfl) (fun _ _ _ h => h) (Or.inl ⟨by rfl, ?_⟩) ?_ ?_
      rotate_left
      · intro w'
        go_simp
        with_reducible rfl
      rotate_left
      · simp only [Act.put, List.setIfInBounds_toArray, List.set_cons_zero, List.set_cons_succ, i64_w, i32_w]
        rfl
      refine pure_ (i := 7) (N := some 21) (v := ?_) (a' := ?_) #[true, true, true, true, true, true, true, true, false, true, false, false, false, false, false, false] rfl rfl (by kernel_rfl) (fun _ _ _ h => h) (Or.inl ⟨by rfl, ?_⟩) ?_ ?_
      rotate_left
      · intro w'
        go_simp
        with_reducible rfl
      rotate_left
      · simp only [Act.put, List.setIfInBounds_toArray, List.set_cons_zero, List.set_cons_succ, i64_w, i32_w]
        rfl
      refine take_ (i := 8) (N := some 22) (v := ?_) (a' := ?_) #[true, true, true, true, true, true, true, true, true, true, false, false, false, false, false, false] rfl rfl (by kernel_rfl) (fun _ _ _ h => h) (Or.inl ⟨by rfl, ?_⟩) hHeld ?_ ?_
      rotate_left
      · rintro w' ⟨s0, s1, s2, s3⟩
        go_simp
        with_reducible rfl
      rotate_left
      · simp only [Act.put, List.setIfInBounds_toArray, List.set_cons_zero, List.set_cons_succ, i64_w, i32_w]
        rfl
      refine pure_ (i := 10) (N := some 24) (v := ?_) (a' := ?_) #[true, true, true, true, true, true, true, true, true, true, true, false, false, false, false, false] rfl rfl (by kernel_rfl) (fun _ _ _ h => h) (Or.inl ⟨by rfl, ?_⟩) ?_ ?_
      rotate_left
      · intro w'
        go_simp
        with_reducible rfl
      rotate_left
      · simp only [Act.put, List.setIfInBounds_toArray, List.set_cons_zero, List.set_cons_succ, i64_w, i32_w]
        rfl
      refine pure_ (i := 11) (N := some 25) (v := ?_) (a' := ?_) #[true, true, true, true, true, true, true, true, true, true, true, true, false, false, false, false] rfl rfl (by kernel_rfl) (fun _ _ _ h => h) (Or.inl ⟨by rfl, ?_⟩) ?_ ?_
      rotate_left
      · intro w'
        go_simp
        with_reducible rfl
      rotate_left
      · simp only [Act.put, List.setIfInBounds_toArray, List.set_cons_zero, List.set_cons_succ, i64_w, i32_w]
        rfl
      refine take_ (i := 12) (N := some 26) (v := ?_) (a' := ?_) #[true, true, true, true, true, true, true, true, true, true, true, true, true, false, false, false] rfl rfl (by kernel_rfl) (fun _ _ _ h => h) (Or.inl ⟨by rfl, ?_⟩) hHeld ?_ ?_
      rotate_left
      · rintro w' ⟨s0, s1, s2, s3⟩
        go_simp
        with_reducible rfl
      rotate_left
      · simp only [Act.put, List.setIfInBounds_toArray, List.set_cons_zero, List.set_cons_succ, i64_w, i32_w]
        rfl
      refine pure_ (i := 13) (N := some 27) (v := ?_) (a' := ?_) #[true, true, true, true, true, true, true, true, true, true, true, true, true, true, false, false] rfl rfl (by kernel_rfl) (fun _ _ _ h => h) (Or.inl ⟨by rfl, ?_⟩) ?_ ?_
      rotate_left
      · intro w'
        go_simp
        with_reducible rfl
      rotate_left
      · simp only [Act.put, List.setIfInBounds_toArray, List.set_cons_zero, List.set_cons_succ, i64_w, i32_w]
        rfl
      refine pure_ (i := 14) (N := some 28) (v := ?_) (a' := ?_) #[true, true, true, true, true, true, true, true, true, true, true, true, true, true, true, false] rfl rfl (by kernel_rfl) (fun _ _ _ h => h) (Or.inl ⟨by rfl, ?_⟩) ?_ ?_
      rotate_left
      · intro w'
        go_simp
        with_reducible rfl
      rotate_left
      · simp only [Act.put, List.setIfInBounds_toArray, List.set_cons_zero, List.set_cons_succ, i64_w, i32_w]
        rfl
      refine pure_ (i := 15) (N := some 29) (v := ?_) (a' := ?_) #[true, true, true, true, true, true, true, true, true, true, true, true, true, true, true, true] rfl rfl (by kernel_rfl) (fun _ _ _ h => h) (Or.inl ⟨by rfl, ?_⟩) ?_ ?_
      rotate_left
      · intro w'
        go_simp
        with_reducible rfl
      rotate_left
      · simp only [Act.put, List.setIfInBounds_toArray, List.set_cons_zero, List.set_cons_succ, i64_w, i32_w]
        rfl
      refine done_ (by kernel_rfl) ?_
      go_wp2
      go_ret
      exact ⟨by rw [HE.out]; rfl, below_drew (Below.refl _ _)⟩
    · have HE : Aside0 (R = 0) := ⟨by rw [HR.out, if_neg (by rintro (h | h) <;> contradiction)]⟩
      have hd2 : decide ((x.f1.size : Int) < size) = false := by simpa using hb
      clear hs hb
      go_enter Tryz.func163, Tryz.ntmps163
      go_wp2_with (go_at_call 160; refine (there_any _ _ _).mono ?_; rintro e w' ⟨rfl, rfl⟩)
      refine start_ (n := 16) (S := fun w' => w'.cell? ⟨b2, 0, none⟩ = some (.int .i64 size) ∧ w'.cell? ⟨b1, 0, none⟩ = some (.pointer (some ⟨gp, 0, none⟩)) ∧ w'.cell? ⟨gp, 0, none⟩ = some (.slice (some ⟨g, 0, none⟩) l.length c) ∧ w'.cell? ⟨g, i * 3 + 1, none⟩ = some (.string x.f1)) (ds := []) #[false, false, false, false, false, false, false, false, false, false, false, false, false, false, false, false] (by kernel_rfl) rfl rfl ⟨s3, s1, s2, s4⟩ (fun hHeld => ?_)
      refine take_ (i := 0) (N := some 14) (v := ?_) (a' := ?_) #[true, false, false, false, false, false, false, false, false, false, false, false, false, false, false, false] rfl rfl (by kernel_rfl) (fun _ _ _ h => h) (Or.inl ⟨by rfl, ?_⟩) hHeld ?_ ?_
      rotate_left
      · rintro w' ⟨s0, s1, s2, s3⟩
        go_simp
        with_reducible rfl
      rotate_left
      · simp only [Act.put, List.setIfInBounds_toArray, List.set_cons_zero, List.set_cons_succ, i64_w, i32_w]
        rfl
      refine pure_ (i := 1) (N := some 15) (v := ?_) (a' := ?_) #[true, true, false, false, false, false, false, false, false, false, false, false, false, false, false, false] rfl rfl (by kernel_rfl) (fun _ _ _ h => h) (Or.inl ⟨by rfl, ?_⟩) ?_ ?_
      rotate_left
      · intro w'
        go_simp
        with_reducible rfl
      rotate_left
      · simp only [Act.put, List.setIfInBounds_toArray, List.set_cons_zero, List.set_cons_succ, i64_w, i32_w]
        rfl
      refine pure_ (i := 2) (N := some 16) (v := ?_) (a' := ?_) #[true, true, true, false, false, false, false, false, false, false, false, false, false, false, false, false] rfl rfl (by kernel_rfl) (fun _ _ _ h => h) (Or.inl ⟨by rfl, ?_⟩) ?_ ?_
      rotate_left
      · intro w'
        go_simp
        with_reducible rfl
      rotate_left
      · simp only [Act.put, List.setIfInBounds_toArray, List.set_cons_zero, List.set_cons_succ, i64_w, i32_w]
        rfl
      refine pure_ (i := 9) (N := some 23) (v := ?_) (a' := ?_) #[true, true, true, false, false, false, false, false, false, true, false, false, false, false, false, false] rfl rfl (by kernel_rfl) (fun _ _ _ h => h) (Or.inl ⟨by rfl, ?_⟩) ?_ ?_
      rotate_left
      · intro w'
        go_simp
        with_reducible rfl
      rotate_left
      · simp only [Act.put, List.setIfInBounds_toArray, List.set_cons_zero, List.set_cons_succ, i64_w, i32_w]
        rfl
      refine take_ (i := 3) (N := some 17) (v := ?_) (a' := ?_) #[true, true, true, true, false, false, false, false, false, true, false, false, false, false, false, false] rfl rfl (by kernel_rfl) (fun _ _ _ h => h) (Or.inl ⟨by rfl, ?_⟩) hHeld ?_ ?_
      rotate_left
      · rintro w' ⟨s0, s1, s2, s3⟩
        go_simp
        with_reducible rfl
      rotate_left
      · simp only [Act.put, List.setIfInBounds_toArray, List.set_cons_zero, List.set_cons_succ, i64_w, i32_w]
        rfl
      refine take_ (i := 4) (N := some 18) (v := ?_) (a' := ?_) #[true, true, true, true, true, false, false, false, false, true, false, false, false, false, false, false] rfl rfl (by kernel_rfl) (fun _ _ _ h => h) (Or.inl ⟨by rfl, ?_⟩) hHeld ?_ ?_
      rotate_left
      · rintro w' ⟨s0, s1, s2, s3⟩
        go_simp
        with_reducible rfl
      rotate_left
      · simp only [Act.put, List.setIfInBounds_toArray, List.set_cons_zero, List.set_cons_succ, i64_w, i32_w]
        rfl
      refine pure_ (i := 5) (N := some 19) (v := ?_) (a' := ?_) #[true, true, true, true, true, true, false, false, false, true, false, false, false, false, false, false] rfl rfl (by kernel_rfl) (fun _ _ _ h => h) (Or.inl ⟨by rfl, ?_⟩) ?_ ?_
      rotate_left
      · intro w'
        go_simp
        with_reducible rfl
      rotate_left
      · simp only [Act.put, List.setIfInBounds_toArray, List.set_cons_zero, List.set_cons_succ, i64_w, i32_w]
        rfl
      refine pure_ (i := 6) (N := some 20) (v := ?_) (a' := ?_) #[true, true, true, true, true, true, true, false, false, true, false, false, false, false, false, false] rfl rfl (by kernel_rfl) (fun _ _ _ h => h) (Or.inl ⟨by rfl, ?_⟩) ?_ ?_
      rotate_left
      · intro w'
        go_simp
        with_reducible rfl
      rotate_left
      · simp only [Act.put, List.setIfInBounds_toArray, List.set_cons_zero, List.set_cons_succ, i64_w, i32_w]
        rfl
      refine pure_ (i := 7) (N := some 21) (v := ?_) (a' := ?_) #[true, true, true, true, true, true, true, true, false, true, false, false, false, false, false, false] rfl rfl (by kernel_rfl) (fun _ _ _ h => h) (Or.inl ⟨by rfl, ?_⟩) ?_ ?_
      rotate_left
      · intro w'
        go_simp
        with_reducible rfl
      rotate_left
      · simp only [Act.put, List.setIfInBounds_toArray, List.set_cons_zero, List.set_cons_succ, i64_w, i32_w]
        rfl
      refine take_ (i := 8) (N := some 22) (v := ?_) (a' := ?_) #[true, true, true, true, true, true, true, true, true, true, false, false, false, false, false, false] rfl rfl (by kernel_rfl) (fun _ _ _ h => h) (Or.inl ⟨by rfl, ?_⟩) hHeld ?_ ?_
      rotate_left
      · rintro w' ⟨s0, s1, s2, s3⟩
        go_simp
        with_reducible rfl
      rotate_left
      · simp only [Act.put, List.setIfInBounds_toArray, List.set_cons_zero, List.set_cons_succ, i64_w, i32_w]
        rfl
      refine pure_ (i := 10) (N := some 24) (v := ?_) (a' := ?_) #[true, true, true, true, true, true, true, true, true, true, true, false, false, false, false, false] rfl rfl (by kernel_rfl) (fun _ _ _ h => h) (Or.inl ⟨by rfl, ?_⟩) ?_ ?_
      rotate_left
      · intro w'
        go_simp
        with_reducible rfl
      rotate_left
      · simp only [Act.put, List.setIfInBounds_toArray, List.set_cons_zero, List.set_cons_succ, i64_w, i32_w]
        rfl
      refine pure_ (i := 11) (N := some 25) (v := ?_) (a' := ?_) #[true, true, true, true, true, true, true, true, true, true, true, true, false, false, false, false] rfl rfl (by kernel_rfl) (fun _ _ _ h => h) (Or.inl ⟨by rfl, ?_⟩) ?_ ?_
      rotate_left
      · intro w'
        go_simp
        with_reducible rfl
      rotate_left
      · simp only [Act.put, List.setIfInBounds_toArray, List.set_cons_zero, List.set_cons_succ, i64_w, i32_w]
        rfl
      refine take_ (i := 12) (N := some 26) (v := ?_) (a' := ?_) #[true, true, true, true, true, true, true, true, true, true, true, true, true, false, false, false] rfl rfl (by kernel_rfl) (fun _ _ _ h => h) (Or.inl ⟨by rfl, ?_⟩) hHeld ?_ ?_
      rotate_left
      · rintro w' ⟨s0, s1, s2, s3⟩
        go_simp
        with_reducible rfl
      rotate_left
      · simp only [Act.put, List.setIfInBounds_toArray, List.set_cons_zero, List.set_cons_succ, i64_w, i32_w]
        rfl
      refine pure_ (i := 13) (N := some 27) (v := ?_) (a' := ?_) #[true, true, true, true, true, true, true, true, true, true, true, true, true, true, false, false] rfl rfl (by kernel_rfl) (fun _ _ _ h => h) (Or.inl ⟨by rfl, ?_⟩) ?_ ?_
      rotate_left
      · intro w'
        go_simp
        with_reducible rfl
      rotate_left
      · simp only [Act.put, List.setIfInBounds_toArray, List.set_cons_zero, List.set_cons_succ, i64_w, i32_w]
        rfl
      refine pure_ (i := 14) (N := some 28) (v := ?_) (a' := ?_) #[true, true, true, true, true, true, true, true, true, true, true, true, true, true, true, false] rfl rfl (by kernel_rfl) (fun _ _ _ h => h) (Or.inl ⟨by rfl, ?_⟩) ?_ ?_
      rotate_left
      · intro w'
        go_simp
        with_reducible rfl
      rotate_left
      · simp only [Act.put, List.setIfInBounds_toArray, List.set_cons_zero, List.set_cons_succ, i64_w, i32_w]
        rfl
      refine pure_ (i := 15) (N := some 29) (v := ?_) (a' := ?_) #[true, true, true, true, true, true, true, true, true, true, true, true, true, true, true, true] rfl rfl (by kernel_rfl) (fun _ _ _ h => h) (Or.inl ⟨by rfl, ?_⟩) ?_ ?_
      rotate_left
      · intro w'
        go_simp
        with_reducible rfl
      rotate_left
      · simp only [Act.put, List.setIfInBounds_toArray, List.set_cons_zero, List.set_cons_succ, i64_w, i32_w]
        rfl
      refine done_ (by kernel_rfl) ?_
      go_wp2
      go_ret
      exact ⟨by rw [HE.out]; rfl, below_drew (Below.refl _ _)⟩
set_option maxHeartbeats 4000000 in
set_option maxRecDepth 100000 in
theorem cut_do (gp b1 b2 : Nat) (w : World) (base : Nat) (l : List S67) (size : Nat) (A : Option Addr) (c : Nat) (dn : Bool) (fu fa : Int) (i : Nat) (x : S67) (hx : l[i]? = some x) (hsz : size ≤ x.f1.size) (hn : l.length ≤ 64) (hs1 : x.f1.size ≤ 262144) (hb1 : w.heap[b1]? = some (.cells #[.pointer (some ⟨gp, 0, none⟩)] 176 (0, 0)))
    (hb2 : w.heap[b2]? = some (.cells #[.int .i64 (size : Int)] 3 (0, 0))) (hp : Plate w base gp (.slice A l.length c) l dn fu fa) :
    Calls Tryz.prog 164 #[.int .i64 (i : Int), .pointer (some ⟨b1, 0, none⟩), .pointer (some ⟨b2, 0, none⟩)] w (Done w base gp dn fu fa (l.set i ⟨x.f0, x.f1.extract 0 size, (size : Int)⟩)) := by
  obtain ⟨hp, ho⟩ := hp
  have hlt : i < l.length := (List.getElem?_eq_some_iff.1 hx).1
  obtain ⟨g, cur, rfl, _, hg, hh, h3, h4, h5, h6⟩ := R_block ho (by omega)
  obtain ⟨e0, e1, e2⟩ := cellsOf_get l i x hx
  have s1 : w.cell? ⟨b1, 0, none⟩ = some (.pointer (some ⟨gp, 0, none⟩)) := (blk_cell hb1 0).trans rfl
  have s2 : w.cell? ⟨gp, 0, none⟩ = some (.slice (some ⟨g, 0, none⟩) l.length c) := (blk_cell hp 0).trans rfl
  have s3 : w.cell? ⟨b2, 0, none⟩ = some (.int .i64 (size : Int)) := (blk_cell hb2 0).trans rfl
  have s4 : w.cell? ⟨g, i * 3 + 1, none⟩ = some (.string x.f1) := R_cell hh h6 e1
  have s6 : w.cell? ⟨g, i * 3 + 2, none⟩ = some (.int .i64 x.f2) := R_cell hh h6 e2
  have s5 := blk_frozen hh (i * 3 + 1)
  have s7 := blk_frozen hh (i * 3 + 2)
  have ngp : g ≠ gp := other_block hh hp (by decide)
  have HX := Aside0.mk hx
  have HO := Aside0.mk ho
  have HP := Aside0.mk hp
  have HH := Aside0.mk hh
  have NGP := Aside0.mk ngp
  have HG := Aside0.mk hg
  have hi0 : (0 : Int) ≤ (i : Int) := by omega
  have hi1 : (i : Int) < (l.length : Int) := by omega
  have hz1 : (0 : Int) ≤ (size : Int) := by omega
  have hz2 : (size : Int) ≤ (x.f1.size : Int) := by omega
  clear hx ho hp hh ngp h3 h4 h5 h6 e0 e1 e2 hb1 hg hb2
  go_enter Tryz.func164, Tryz.ntmps164
  go_wp2
  go_region
  go_end0
  have h1 := R_put (u := .string (x.f1.extract 0 size)) HO.out (l' := l.set i ⟨x.f0, x.f1.extract 0 size, x.f2⟩) (by rw [List.length_set]) (cellsOf_set1 l i x _ HX.out) (j := i * 3 + 1) (by omega)
  have hx2 : (l.set i ⟨x.f0, x.f1.extract 0 size, x.f2⟩)[i]? = some (⟨x.f0, x.f1.extract 0 size, x.f2⟩ : S67) := by simp [hlt]
  have h2 := R_put (u := .int .i64 (size : Int)) h1 (l' := l.set i ⟨x.f0, x.f1.extract 0 size, (size : Int)⟩) (by rw [List.length_set, List.length_set]) (by
    have := cellsOf_set2 _ i _ (size : Int) hx2
    rw [this, List.set_set]) (j := i * 3 + 2) (by rw [List.length_set]; omega)
  rw [List.length_set] at h2
  refine ⟨rfl, .slice (some ⟨g, 0, none⟩) l.length c, blk_drew (blk_far (p := ⟨g, i * 3 + 2, none⟩) (blk_far (p := ⟨g, i * 3 + 1, none⟩) HP.out (fun e => NGP.out e.symm) _) (fun e => NGP.out e.symm) _), h2, below_drew (((Below.refl base w).setCell HG.out _).setCell HG.out _), fun k cs h => ?_⟩
  have hk := other_block h HH.out (by decide)
  exact blk_drew (blk_far (p := ⟨g, i * 3 + 2, none⟩) (blk_far (p := ⟨g, i * 3 + 1, none⟩) h hk _) hk _)
set_option maxHeartbeats 4000000 in
set_option maxRecDepth 100000 in
theorem cut_inner (W w1 : World) (gp : Nat) (v : Value) (l : List S67) (dn : Bool) (fu fa : Int) (size : Int) (sd : Int → List S67) (hsd : ∀ (i n : Nat) (x : S67), l[i]? = some x → size = (n : Int) → n ≤ x.f1.size → sd (i : Int) = l.set i ⟨x.f0, x.f1.extract 0 n, (n : Int)⟩) (hb : Below W.heap.size W w1) (hgp : W.heap.size ≤ gp) (hp : w1.heap[gp]? = some (.cells #[v, .bool dn, .int .i64 fu, .int .i64 fa] 211 (0, 0)))
    (ho : Kd.R k67 67 w1 W.heap.size (fun _ => True) v l) (hok : rightF l = true) :
    Calls Tryz.prog 120 #[.pointer (some ⟨gp, 0, none⟩), .int .i64 size] w1 fun e w2 => ∃ rv dv : Value, e = .returned (.agg #[rv, dv, .bool false]) ∧ Below w1.heap.size w1 w2 ∧ RefV w2 rv l.length (rfT size l) ∧ DoV W.heap.size gp w2 dv v l (rfT size l) sd := by
  obtain ⟨A, c, rfl⟩ := Kd.R_slice ho
  have hlt : gp < w1.heap.size := blk_lt hp
  have hle : l.length ≤ 64 := by
    simp only [rightF, Bool.and_eq_true, decide_eq_true_eq] at hok
    exact hok.2
  go_enter Tryz.func120, Tryz.ntmps120
  go_wp2
  refine bodyPost_ret (results_cell_row rfl _ _ (w1.heap.size + 2) 179 #[.func (.func 163) #[] #[.pointer (some ⟨w1.heap.size + 1, 0, none⟩), .pointer (some ⟨w1.heap.size, 0, none⟩)], .func (.func 164) #[] #[.pointer (some ⟨w1.heap.size, 0, none⟩), .pointer (some ⟨w1.heap.size + 1, 0, none⟩)], .bool false] (0, 0) _ rfl (new33 w1 _ _ _) Tryz.underlying179 rfl (by kernel_rfl)) rfl ?_
  refine ⟨_, _, rfl, below_alloc (below_alloc (below_alloc (Below.refl _ _) _) _) _, ⟨163, _, rfl, enters51, fun w3 i b hb3 hil hib => ?_⟩, 164, _, rfl, enters52, fun w3 i b dn fu fa hk hil hib hrf hp3 ho3 => ?_⟩
  · refine calls_of_args (args' := #[.int .i64 (i : Int), .bool b, .pointer (some ⟨w1.heap.size + 1, 0, none⟩), .pointer (some ⟨w1.heap.size, 0, none⟩)]) (by simp) ?_
    have hbb1 := hb3 _ _ _ (by decide) (by decide) (by simp) (new31 w1 _ _ _)
    have hbb2 := hb3 _ _ _ (by decide) (by decide) (by simp) (new32 w1 _ _ _)
    have hpp := hb3 _ _ _ (by decide) (by decide) (by simp) (blk_alloc (blk_alloc (blk_alloc hp _) _) _)
    cases b with
    | false =>
      refine (cut_unknown w3 _ _ size l i).mono ?_
      rintro e w4 ⟨rfl, rfl⟩
      exact ⟨rfl, Below.refl _ _⟩
    | true =>
      obtain ⟨x, hx⟩ := get_of_lt (hib rfl)
      obtain ⟨g, cur, rfl, _, hg, hh, h3, h4, h5, h6⟩ := R_block ho (by have := hib rfl; omega)
      exact cut_refuse w3 gp w1.heap.size (w1.heap.size + 1) g cur size l c i x hx hle ((blk_cell hbb2 0).trans rfl) ((blk_cell hbb1 0).trans rfl) ((blk_cell hpp 0).trans rfl) (hb3 _ _ _ (by decide) (by decide) (by simp) (blk_alloc (blk_alloc (blk_alloc hh _) _) _)) h6
  · refine calls_of_args (args' := #[.int .i64 (i : Int), .pointer (some ⟨w1.heap.size, 0, none⟩), .pointer (some ⟨w1.heap.size + 1, 0, none⟩)]) (by simp) ?_
    have hbb1 := hk _ _ _ (by decide) (by decide) (fun h => by injection h with h; omega) (new31 w1 _ _ _)
    have hbb2 := hk _ _ _ (by decide) (by decide) (fun h => by injection h with h; omega) (new32 w1 _ _ _)
    have hsz : W.heap.size ≤ w3.heap.size := by have := blk_lt hp3; omega
    have hbt : b = true := by
      cases b
      · simp [rfT] at hrf
      · rfl
    subst hbt
    obtain ⟨x, hx⟩ := get_of_lt (hib rfl)
    rw [rfT, if_pos rfl, rd_get hx] at hrf
    split at hrf
    · cases hrf
    rename_i hno
    obtain ⟨n, rfl⟩ : ∃ n : Nat, size = (n : Int) := ⟨size.toNat, by omega⟩
    have hn : n ≤ x.f1.size := by omega
    refine (cut_do gp w1.heap.size (w1.heap.size + 1) w3 W.heap.size l n A c dn fu fa i x hx hn hle (right_get hok hx).2.1 hbb1 hbb2 ⟨hp3, ho3⟩).mono fun e w4 h => ?_
    rw [hsd i n x hx rfl hn]
    exact h
set_option maxHeartbeats 4000000 in
set_option maxRecDepth 100000 in
theorem cut_of (W : World) (nb : Nat) (l : List S67) (dn : Bool) (fu fa : Int) (size : Int) (sd : Int → List S67) (hsd : ∀ (i n : Nat) (x : S67), l[i]? = some x → size = (n : Int) → n ≤ x.f1.size → sd (i : Int) = l.set i ⟨x.f0, x.f1.extract 0 n, (n : Int)⟩) (hnb : W.heap[nb]? = some (.cells #[.int .i64 size] 3 (0, 0))) :
    OfV W 119 #[.pointer (some ⟨nb, 0, none⟩)] l dn fu fa false (rfT size l) sd := by
  intro w1 gp v hb hgp hp ho hok
  have hc := (blk_cell (blk_below hnb hb) 0).trans rfl
  refine calls_of_args (args' := #[.pointer (some ⟨gp, 0, none⟩), .pointer (some ⟨nb, 0, none⟩)]) (by simp) ?_
  have HB := Aside0.mk hb
  have HGP := Aside0.mk hgp
  have HP := Aside0.mk hp
  have HO := Aside0.mk ho
  have HOK := Aside0.mk hok
  clear hb hgp hp ho hok hnb
  go_enter Tryz.func119, Tryz.ntmps119
  go_wp2_with (first
    | ((with_reducible refine gate_dst (N := 3) rfl ?_);
        refine box_event ?hg (N := 3) ?hd (cs := #[.nilFunc, .nilFunc, .bool false]) (t := 179) ?hr ?_;
        (case hd => rfl); (case hg => rfl); (case hr => first | (go_simp; done) | (go_simp; rfl));
        intro g3 hg w2 hbox hb2;
        have N3 := Aside0.mk (show w1.heap.size ≤ g3 by rw [hg]; exact Nat.le_refl _);
        have hc2 := (hb2.cell (World.block_lt_of_cell? w1 _ hc)).trans hc;
        have HB2 := Aside0.mk hb2; have BK3 := Aside0.mk hbox; clear hg hbox hb2 hc)
    | fail)
  refine ((cut_inner W _ gp v l dn fu fa size sd hsd (below_step HB.out HB2.out) HGP.out (blk_below HP.out HB2.out) (Kd.R_below HO.out HB2.out) HOK.out).mono ?_)
  rintro e w4 ⟨rv, dv, rfl, hb4, ⟨Kr, cr, rfl, hKr, hrf⟩, ⟨Kd_, cd, rfl, hKd, hdo⟩⟩
  have HKr := Aside0.mk hKr
  have Hrf := Aside0.mk hrf
  have HKd := Aside0.mk hKd
  have Hdo := Aside0.mk hdo
  have HB4 := Aside0.mk hb4
  have bk := blk_below BK3.out hb4
  have c0 := (blk_cell bk 0).trans rfl
  have c1 := (blk_cell bk 1).trans rfl
  have c2 := (blk_cell bk 2).trans rfl
  have f0 := blk_frozen bk 0
  have f1 := blk_frozen bk 1
  have f2 := blk_frozen bk 2
  have BK4 := Aside0.mk bk
  clear hKr hrf hKd hdo hb4 bk
  go_wp2
  refine bodyPost_ret (results_cell_row rfl _ _ g3 179 #[.func (.func Kr) #[] cr, .func (.func Kd_) #[] cd, .bool false] (0, 0) _ rfl (put3 BK4.out _ _ _) Tryz.underlying179 rfl (by kernel_rfl)) rfl ?_
  have hw4 : Below w1.heap.size w1 w4 := below_step HB2.out HB4.out
  have hgg : ∀ (k : Nat), k ≠ g3 → (((w4.setCell ⟨g3, 0, none⟩ (.func (.func Kr) #[] cr)).setCell ⟨g3, 1, none⟩ (.func (.func Kd_) #[] cd)).setCell ⟨g3, 2, none⟩ (.bool false)).heap[k]? = w4.heap[k]? := fun k hk =>
    ((Below.heap_setCell _ ⟨g3, 2, none⟩ _ k hk).trans (Below.heap_setCell _ ⟨g3, 1, none⟩ _ k hk)).trans (Below.heap_setCell _ ⟨g3, 0, none⟩ _ k hk)
  refine ⟨_, _, rfl, below3 hw4 N3.out _ _ _, ⟨Kr, cr, rfl, HKr.out, ?_⟩, Kd_, cd, rfl, HKd.out, ?_⟩
  · intro w5 i b hk hil hib
    refine Hrf.out w5 i b (fun k cs t h1 h2 h3 h4 => hk k cs t h1 h2 h3 ?_) hil hib
    rw [hgg k (fun e => by subst e; exact absurd h4 (ne63 BK4.out h1))]
    exact h4
  · intro w5 i b dn fu fa hk
    refine Hdo.out w5 i b dn fu fa (fun k cs t h1 h2 h3 h4 => hk k cs t h1 h2 h3 ?_)
    rw [hgg k (fun e => by subst e; exact absurd h4 (ne63 BK4.out h1))]
    exact h4
end Go.Proofs.YtanonhipicoigaaGreatDoor.U
namespace Go.Proofs.YtanonhipicoigaaGreatDoor.U
open Go.RowKit Go.Proofs.YtanonhipicoigaaGreatDoorW.PrintWords Go.Proofs.YtanonhipicoigaaGreatDoorW.PrintLast Go.Proofs.YtanonhipicoigaaGreatDoorW.PrintMore
set_option linter.unusedVariables false
set_option linter.unusedSimpArgs false
/-! ### remove -/
theorem setCells_other (g k : Nat) (hk : k ≠ g) : ∀ (vs : List Value) (o : Nat) (w : World), (w.setCells g o vs).heap[k]? = w.heap[k]?
  | [], _, _ => rfl
  | v :: r, o, w => by
    rw [World.setCells, setCells_other g k hk r (o + 1)]
    exact Below.heap_setCell w ⟨g, o, none⟩ v k hk
theorem setCells_below {B g : Nat} {w : World} (hB : B ≤ g) : ∀ (vs : List Value) (o : Nat) (W : World), Below B w W → Below B w (W.setCells g o vs)
  | [], _, _, h => h
  | v :: r, o, W, h => setCells_below hB r (o + 1) _ (h.setCell hB v)
/-- A row's list where some cells are stored anew. -/
def setL : List Value → Nat → List Value → List Value
  | xs, _, [] => xs
  | xs, o, v :: r => setL (xs.set o v) (o + 1) r
theorem setL_eq : ∀ (vs xs : List Value) (o : Nat), o + vs.length ≤ xs.length → setL xs o vs = xs.take o ++ vs ++ xs.drop (o + vs.length)
  | [], xs, o, h => by simp [setL]
  | v :: r, xs, o, h => by
    simp only [List.length_cons] at h
    rw [setL, setL_eq r (xs.set o v) (o + 1) (by rw [List.length_set]; omega)]
    rw [List.take_set, List.drop_set_of_lt (by omega), List.length_cons, show o + 1 + r.length = o + (r.length + 1) by omega]
    have h1 : (xs.take (o + 1)).set o v = xs.take o ++ [v] := by
      rw [List.take_succ_eq_append_getElem (by omega), List.set_append_right _ _ (by rw [List.length_take]; omega)]
      rw [List.length_take, show o - min o xs.length = 0 by omega]
      rfl
    rw [h1]
    simp
theorem setCells_row (g t : Nat) : ∀ (vs : List Value) (o : Nat) (w : World) (cur : Array Value), w.heap[g]? = some (.cells cur t (0, 0)) → ∃ cur', (w.setCells g o vs).heap[g]? = some (.cells cur' t (0, 0)) ∧ cur'.size = cur.size ∧ cur'.toList = setL cur.toList o vs
  | [], o, w, cur, h => ⟨cur, h, rfl, rfl⟩
  | v :: r, o, w, cur, h => by
    obtain ⟨cur', h1, h2, h3⟩ := setCells_row g t r (o + 1) (w.setCell ⟨g, o, none⟩ v) (cur.setIfInBounds o v) (blk_set h o v)
    exact ⟨cur', h1, by simpa using h2, by rw [h3]; simp [setL]⟩
theorem zero67 (w : World) : (zeroValue 67).run Tryz.prog w = .ok (.agg #[.string ⟨#[]⟩, .string ⟨#[]⟩, .int .i64 0]) w := by kernel_rfl
theorem run_clear43 (w : World) (ty g o c : Nat) (hc : ∀ j, j < 3 → (w.cell? ⟨g, o + j, none⟩).isSome = true) (hf : ∀ j, j < 3 → w.frozen? ⟨g, o + j, none⟩ = false) :
    (Builtin.clear_ #[25] ty #[.slice (some ⟨g, o, none⟩) 1 c]).run Tryz.prog w = .ok (.tuple #[]) (w.setCells g o [.string ⟨#[]⟩, .string ⟨#[]⟩, .int .i64 0]) := by
  have hzc : (Builtin.zeroCells (Value.agg #[.string ⟨#[]⟩, .string ⟨#[]⟩, .int .i64 0]).cells 1).toList = [.string ⟨#[]⟩, .string ⟨#[]⟩, .int .i64 0] := by kernel_rfl
  have hst := run_storeCells_cells (P := Tryz.prog) g o [.string ⟨#[]⟩, .string ⟨#[]⟩, .int .i64 0] 0 w (by simpa using hc) (by simpa using hf) (by intro v hv'; simp at hv'; rcases hv' with rfl | rfl | rfl <;> rfl)
  simp only [Nat.add_zero] at hst
  simp [Builtin.clear_, run_underlying Tryz.underlying25, zero67, hzc, hst]
set_option maxHeartbeats 8000000 in
set_option maxRecDepth 100000 in
theorem delete_any (w : World) (base : Nat) (l : List S67) (g c : Nat) (i m : Nat) (hl : l.length = i + m + 1) (hn : l.length ≤ 64) (ho : Kd.R k67 67 w base (fun _ => True) (.slice (some ⟨g, 0, none⟩) l.length c) l) :
    Calls Tryz.prog 162 #[.slice (some ⟨g, 0, none⟩) (i + m + 1) c, .int .i64 (i : Int), .int .i64 ((i : Int) + 1)] w fun e w4 => e = .returned (.slice (some ⟨g, 0, none⟩) (i + m) c) ∧
      Kd.R k67 67 w4 base (fun _ => True) (.slice (some ⟨g, 0, none⟩) (i + m) c) (l.take i ++ l.drop (i + 1)) ∧ Below base w w4 ∧ ∀ k, k ≠ g → w4.heap[k]? = w.heap[k]? := by
  obtain ⟨g', cur, e, _, hg, hh, h3, h4, h5, h6⟩ := R_block ho (by omega)
  injection e with e
  injection e with e
  subst e
  obtain ⟨i0, hi0, hz0, hz1, hz2⟩ := info_parts43
  have hic : i + m + 1 ≤ c := by omega
  have him : i + m + 1 ≤ 64 := by omega
  have hi7 : i ≤ c := by omega
  have hcm : c ≤ 9223372036854775807 := by unfold maxLen at h4; omega
  have hne : ((i : Int) == (i : Int) + 1) = false := by simp; omega
  have HL := Aside0.mk hl
  have HI0 := Aside0.mk hi0
  have HZ1 := Aside0.mk hz1
  have HH := Aside0.mk hh
  have H6 := Aside0.mk h6
  have HG := Aside0.mk hg
  have H5 := Aside0.mk h5
  -- what the row holds behind the move, and behind the clearing
  have hnews : Aside0 ((cellsOf (l.drop (i + 1))).length = m * 3) := ⟨by rw [cellsOf_length, List.length_drop]; omega⟩
  have hspare : Aside0 (∀ j, j < (cellsOf (l.drop (i + 1))).length → (w.drew.cell? ⟨g, 0 + i * 3 + j, none⟩).isSome = true ∧ w.drew.frozen? ⟨g, 0 + i * 3 + j, none⟩ = false) := ⟨fun j hj => by
    rw [hnews.out] at hj
    refine ⟨?_, blk_frozen (blk_drew hh) _⟩
    rw [blk_cell (blk_drew hh), Array.getElem?_eq_getElem (by omega)]
    rfl⟩
  have hcell : Aside0 (∀ j u, (cellsOf (l.drop (i + 1)))[j]? = some u → w.drew.cell? ⟨g, (i + 1) * 3 + j, none⟩ = some u) := ⟨fun j u hu => by
    rw [cellsOf_drop, List.getElem?_drop] at hu
    exact R_cell (blk_drew hh) h6 hu⟩
  clear hl hi0 hz0 hz1 hz2 hh h6 hg h5 h4 h3 ho hn
  have hend : ∀ W : World, W = (w.drew.setCells g (0 + i * 3) (cellsOf (l.drop (i + 1)))) → Aside0 ((∀ j, j < 3 → (W.cell? ⟨g, (i + m) * 3 + j, none⟩).isSome = true) ∧ (∀ j, j < 3 → W.frozen? ⟨g, (i + m) * 3 + j, none⟩ = false) ∧
      Kd.R k67 67 (W.setCells g ((i + m) * 3) [.string ⟨#[]⟩, .string ⟨#[]⟩, .int .i64 0]) base (fun _ => True) (.slice (some ⟨g, 0, none⟩) (i + m) c) (l.take i ++ l.drop (i + 1)) ∧ Below base w (W.setCells g ((i + m) * 3) [.string ⟨#[]⟩, .string ⟨#[]⟩, .int .i64 0]) ∧
      ∀ k, k ≠ g → (W.setCells g ((i + m) * 3) [.string ⟨#[]⟩, .string ⟨#[]⟩, .int .i64 0]).heap[k]? = w.heap[k]?) := by
    rintro W rfl
    obtain ⟨cur1, hc1, hs1, hl1⟩ := setCells_row g 67 (cellsOf (l.drop (i + 1))) (0 + i * 3) w.drew cur (blk_drew HH.out)
    obtain ⟨cur2, hc2, hs2, hl2⟩ := setCells_row g 67 [.string ⟨#[]⟩, .string ⟨#[]⟩, .int .i64 0] ((i + m) * 3) _ cur1 hc1
    have hsz : cur.size = c * 3 := H5.out
    have hct : cur.toList.length = c * 3 := by simpa using hsz
    refine ⟨fun j hj => ?_, fun j hj => blk_frozen hc1 _, ?_, ?_, fun k hk => ?_⟩
    · rw [blk_cell hc1, Array.getElem?_eq_getElem (by omega)]
      rfl
    · have hlen : (l.take i ++ l.drop (i + 1)).length = i + m := by rw [List.length_append, List.length_take, List.length_drop, HL.out]; omega
      refine R_of_own ⟨by rw [cellsOf_length], .inr ⟨g, c, cur2, by rw [hlen], HG.out, hc2, by omega, ?_, by omega, ?_⟩⟩
      · unfold maxLen; omega
      · rw [hl2, hl1, hlen, setL_eq _ _ _ (by
          rw [setL_eq _ _ _ (by rw [hnews.out, hct]; omega)]
          simp [hct, hnews.out]; omega)]
        rw [setL_eq _ _ _ (by rw [hnews.out, hct]; omega), cellsOf_append, cellsOf_take, hnews.out, Nat.zero_add]
        have h6 := H6.out
        have e1 : cur.toList.take (i * 3) = (cellsOf l).take (i * 3) := by rw [← h6, List.take_take]; congr 1; rw [HL.out]; omega
        have e2 : (cur.toList.take (i * 3) ++ cellsOf (l.drop (i + 1))).length = (i + m) * 3 := by rw [List.length_append, List.length_take, hnews.out, hct]; omega
        rw [List.append_assoc, List.take_append_of_le_length (by rw [List.length_take, List.length_append, List.length_append, List.length_take, hnews.out, hct, List.length_drop, hct]; omega)]
        rw [List.take_take, Nat.min_self, List.take_append_of_le_length (by omega), ← e2, List.take_length, e1]
    · exact setCells_below HG.out _ _ _ (setCells_below HG.out _ _ _ (below_drew (Below.refl base w)))
    · rw [setCells_other g k hk, setCells_other g k hk]
      rfl
  have HEND := Aside0.mk hend
  clear hend
  have hclr : ∀ (ty c' : Nat) (W : World), W = (w.drew.setCells g (0 + i * 3) (cellsOf (l.drop (i + 1)))) → (Builtin.clear_ #[25] ty #[.slice (some ⟨g, (i + m) * 3, none⟩) 1 c']).run Tryz.prog W = .ok (.tuple #[]) (W.setCells g ((i + m) * 3) [.string ⟨#[]⟩, .string ⟨#[]⟩, .int .i64 0]) := fun ty c' W hW =>
    run_clear43 W ty g ((i + m) * 3) c' ((HEND.out W hW).out.1) ((HEND.out W hW).out.2.1)
  have HCLR := Aside0.mk hclr
  clear hclr
  by_cases hci : c = i + 1
  · have hm0 : m = 0 := by omega
    subst hm0
    subst hci
    simp only [Nat.add_zero] at HEND HCLR HL hic him ⊢
    have z1 : (i : Int) ≤ (i : Int) + 1 := by omega
    have z2 : (0 : Int) ≤ (i : Int) + 1 := by omega
    go_enter Tryz.func162, Tryz.ntmps162
    go_wp2
    refine start_ (n := 8) (S := fun w' => True) (ds := []) #[false, false, false, false, false, false, false, false] (by kernel_rfl) rfl rfl trivial (fun hHeld => ?_)
    refine pure_ (i := 0) (N := some 20) (v := ?_) (a' := ?_) #[true, false, false, false, false, false, false, false] rfl rfl (by kernel_rfl) (fun _ _ _ h => h) (Or.inl ⟨by rfl, ?_⟩) ?_ ?_
    rotate_left
    · intro w'
      go_simp
      with_reducible rfl
    rotate_left
    · simp only [Act.put, List.setIfInBounds_toArray, List.set_cons_zero, List.set_cons_succ, i64_w, i32_w]
      rfl
    refine pure_ (i := 1) (N := some 21) (v := ?_) (a' := ?_) #[true, true, false, false, false, false, false, false] rfl rfl (by kernel_rfl) (fun _ _ _ h => h) (Or.inl ⟨by rfl, ?_⟩) ?_ ?_
    rotate_left
    · intro w'
      go_simp
      with_reducible rfl
    rotate_left
    · simp only [Act.put, List.setIfInBounds_toArray, List.set_cons_zero, List.set_cons_succ, i64_w, i32_w]
      rfl
    refine pure_ (i := 2) (N := some 22) (v := ?_) (a' := ?_) #[true, true, true, false, false, false, false, false] rfl rfl (by kernel_rfl) (fun _ _ _ h => h) (Or.inl ⟨by rfl, ?_⟩) ?_ ?_
    rotate_left
    · intro w'
      go_simp
      with_reducible rfl
    rotate_left
    · simp only [Act.put, List.setIfInBounds_toArray, List.set_cons_zero, List.set_cons_succ, i64_w, i32_w]
      rfl
    refine pure_ (i := 3) (N := some 23) (v := ?_) (a' := ?_) #[true, true, true, true, false, false, false, false] rfl rfl (by kernel_rfl) (fun _ _ _ h => h) (Or.inl ⟨by rfl, ?_⟩) ?_ ?_
    rotate_left
    · intro w'
      go_simp
      with_reducible rfl
    rotate_left
    · simp only [Act.put, List.setIfInBounds_toArray, List.set_cons_zero, List.set_cons_succ, i64_w, i32_w]
      rfl
    refine pure_ (i := 4) (N := some 24) (v := ?_) (a' := ?_) #[true, true, true, true, true, false, false, false] rfl rfl (by kernel_rfl) (fun _ _ _ h => h) (Or.inl ⟨by rfl, ?_⟩) ?_ ?_
    rotate_left
    · intro w'
      go_simp
      with_reducible rfl
    rotate_left
    · simp only [Act.put, List.setIfInBounds_toArray, List.set_cons_zero, List.set_cons_succ, i64_w, i32_w]
      rfl
    refine pure_ (i := 5) (N := some 25) (v := ?_) (a' := ?_) #[true, true, true, true, true, true, false, false] rfl rfl (by kernel_rfl) (fun _ _ _ h => h) (Or.inl ⟨by rfl, ?_⟩) ?_ ?_
    rotate_left
    · intro w'
      go_simp
      with_reducible rfl
    rotate_left
    · simp only [Act.put, List.setIfInBounds_toArray, List.set_cons_zero, List.set_cons_succ, i64_w, i32_w]
      rfl
    refine one_ (i := 6) (N := some 26) #[true, true, true, true, true, true, true, false] rfl rfl (by kernel_rfl) (by decide) (fun K hK => ?_)
    refine step_append_room rfl (.tmp 22) (.tmp 25) 25 rfl 67 i0 3 Tryz.underlying25 HI0.out HZ1.out g 0 i (i + 1) rfl ⟨g, 0, none⟩ 0 0 (cellsOf (l.drop (i + 1))) rfl hnews.out ?ncz (cellsOf_one _) (by omega) hspare.out ?_
    case ncz => intro j u hu; exact absurd (List.getElem?_eq_some_iff.1 hu).1 (by rw [hnews.out]; omega)
    refine hK.out _ _ trivial (fun hHeld => ?_)
    clear hK K
    refine norm_ (a' := ?_) ?_ ?_
    rotate_left
    · show Act.put _ (some 26) _ = _
      simp only [Act.put, List.setIfInBounds_toArray, List.set_cons_zero, List.set_cons_succ, i64_w, i32_w]
      rfl
    refine pure_ (i := 7) (N := some 0) (v := ?_) (a' := ?_) #[true, true, true, true, true, true, true, true] rfl rfl (by kernel_rfl) (fun _ _ _ h => h) (Or.inl ⟨by rfl, ?_⟩) ?_ ?_
    rotate_left
    · intro w'
      go_simp
      with_reducible rfl
    rotate_left
    · simp only [Act.put, List.setIfInBounds_toArray, List.set_cons_zero, List.set_cons_succ, i64_w, i32_w]
      rfl
    refine done_ (by kernel_rfl) ?_
    obtain ⟨W, hW⟩ : ∃ W, W = (w.drew.setCells g (0 + i * 3) (cellsOf (l.drop (i + 1)))) := ⟨_, rfl⟩
    rw [← hW]
    have hclr := fun ty c' => HCLR.out ty c' W hW
    have HW := HEND.out W hW
    clear hW HEND HCLR hHeld
    go_wp2
    go_ret
    exact ⟨rfl, HW.out.2.2.1, HW.out.2.2.2.1, HW.out.2.2.2.2⟩
  · have z2 : (0 : Int) ≤ (i : Int) + 1 := by omega
    have z3 : (i : Int) + 1 ≤ (i : Int) + (m : Int) + 1 := by omega
    have z4 : i + 1 ≤ c := by omega
    have z5 : (i : Int) + 1 ≤ (c : Int) := by omega
    go_enter Tryz.func162, Tryz.ntmps162
    go_wp2
    refine start_ (n := 8) (S := fun w' => True) (ds := []) #[false, false, false, false, false, false, false, false] (by kernel_rfl) rfl rfl trivial (fun hHeld => ?_)
    refine pure_ (i := 0) (N := some 20) (v := ?_) (a' := ?_) #[true, false, false, false, false, false, false, false] rfl rfl (by kernel_rfl) (fun _ _ _ h => h) (Or.inl ⟨by rfl, ?_⟩) ?_ ?_
    rotate_left
    · intro w'
      go_simp
      with_reducible rfl
    rotate_left
    · simp only [Act.put, List.setIfInBounds_toArray, List.set_cons_zero, List.set_cons_succ, i64_w, i32_w]
      rfl
    refine pure_ (i := 1) (N := some 21) (v := ?_) (a' := ?_) #[true, true, false, false, false, false, false, false] rfl rfl (by kernel_rfl) (fun _ _ _ h => h) (Or.inl ⟨by rfl, ?_⟩) ?_ ?_
    rotate_left
    · intro w'
      go_simp
      with_reducible rfl
    rotate_left
    · simp only [Act.put, List.setIfInBounds_toArray, List.set_cons_zero, List.set_cons_succ, i64_w, i32_w]
      rfl
    refine pure_ (i := 2) (N := some 22) (v := ?_) (a' := ?_) #[true, true, true, false, false, false, false, false] rfl rfl (by kernel_rfl) (fun _ _ _ h => h) (Or.inl ⟨by rfl, ?_⟩) ?_ ?_
    rotate_left
    · intro w'
      go_simp
      with_reducible rfl
    rotate_left
    · simp only [Act.put, List.setIfInBounds_toArray, List.set_cons_zero, List.set_cons_succ, i64_w, i32_w]
      rfl
    refine pure_ (i := 3) (N := some 23) (v := ?_) (a' := ?_) #[true, true, true, true, false, false, false, false] rfl rfl (by kernel_rfl) (fun _ _ _ h => h) (Or.inl ⟨by rfl, ?_⟩) ?_ ?_
    rotate_left
    · intro w'
      go_simp
      with_reducible rfl
    rotate_left
    · simp only [Act.put, List.setIfInBounds_toArray, List.set_cons_zero, List.set_cons_succ, i64_w, i32_w]
      rfl
    refine pure_ (i := 4) (N := some 24) (v := ?_) (a' := ?_) #[true, true, true, true, true, false, false, false] rfl rfl (by kernel_rfl) (fun _ _ _ h => h) (Or.inl ⟨by rfl, ?_⟩) ?_ ?_
    rotate_left
    · intro w'
      go_simp
      with_reducible rfl
    rotate_left
    · simp only [Act.put, List.setIfInBounds_toArray, List.set_cons_zero, List.set_cons_succ, i64_w, i32_w]
      rfl
    refine pure_ (i := 5) (N := some 25) (v := ?_) (a' := ?_) #[true, true, true, true, true, true, false, false] rfl rfl (by kernel_rfl) (fun _ _ _ h => h) (Or.inl ⟨by rfl, ?_⟩) ?_ ?_
    rotate_left
    · intro w'
      go_simp
      with_reducible rfl
    rotate_left
    · simp only [Act.put, List.setIfInBounds_toArray, List.set_cons_zero, List.set_cons_succ, i64_w, i32_w]
      rfl
    refine one_ (i := 6) (N := some 26) #[true, true, true, true, true, true, true, false] rfl rfl (by kernel_rfl) (by decide) (fun K hK => ?_)
    refine step_append_room rfl (.tmp 22) (.tmp 25) 25 rfl 67 i0 3 Tryz.underlying25 HI0.out HZ1.out g 0 i c rfl ⟨g, (i + 1) * 3, none⟩ m (c - (i + 1)) (cellsOf (l.drop (i + 1))) rfl hnews.out ?ncg (cellsOf_one _) (by omega) hspare.out ?_
    case ncg => intro j u hu; rw [add_plain']; exact hcell.out j u hu
    refine hK.out _ _ trivial (fun hHeld => ?_)
    clear hK K
    refine norm_ (a' := ?_) ?_ ?_
    rotate_left
    · show Act.put _ (some 26) _ = _
      simp only [Act.put, List.setIfInBounds_toArray, List.set_cons_zero, List.set_cons_succ, i64_w, i32_w]
      rfl
    refine pure_ (i := 7) (N := some 0) (v := ?_) (a' := ?_) #[true, true, true, true, true, true, true, true] rfl rfl (by kernel_rfl) (fun _ _ _ h => h) (Or.inl ⟨by rfl, ?_⟩) ?_ ?_
    rotate_left
    · intro w'
      go_simp
      with_reducible rfl
    rotate_left
    · simp only [Act.put, List.setIfInBounds_toArray, List.set_cons_zero, List.set_cons_succ, i64_w, i32_w]
      rfl
    refine done_ (by kernel_rfl) ?_
    obtain ⟨W, hW⟩ : ∃ W, W = (w.drew.setCells g (0 + i * 3) (cellsOf (l.drop (i + 1)))) := ⟨_, rfl⟩
    rw [← hW]
    have hclr := fun ty c' => HCLR.out ty c' W hW
    have HW := HEND.out W hW
    clear hW HEND HCLR hHeld
    go_wp2
    go_ret
    exact ⟨rfl, HW.out.2.2.1, HW.out.2.2.2.1, HW.out.2.2.2.2⟩
theorem below_drew' {B : Nat} {w W : World} (h : Below B w.drew W) : Below B w W := ⟨h.os, h.tape, h.output, h.size, h.block⟩
theorem enters53 : Enters 161 := fun args w => enters_ Tryz.func161 (by kernel_rfl) (by kernel_rfl) args w
set_option maxHeartbeats 8000000 in
set_option maxRecDepth 100000 in
theorem remove_do (gp b1 : Nat) (w : World) (base : Nat) (l : List S67) (A : Option Addr) (c : Nat) (dn : Bool) (fu fa : Int) (i : Nat) (hlt : i < l.length) (hn : l.length ≤ 64) (hb1 : w.heap[b1]? = some (.cells #[.pointer (some ⟨gp, 0, none⟩)] 176 (0, 0)))
    (hp : Plate w base gp (.slice A l.length c) l dn fu fa) (hgpb : base ≤ gp) :
    Calls Tryz.prog 161 #[.int .i64 (i : Int), .pointer (some ⟨b1, 0, none⟩)] w (Done w base gp dn fu fa (l.take i ++ l.drop (i + 1))) := by
  obtain ⟨hp, ho⟩ := hp
  obtain ⟨g, cur, rfl, _, hg, hh, h3, h4, h5, h6⟩ := R_block ho (by omega)
  obtain ⟨m, hm⟩ : ∃ m, l.length = i + m + 1 := ⟨l.length - i - 1, by omega⟩
  have s1 : w.cell? ⟨b1, 0, none⟩ = some (.pointer (some ⟨gp, 0, none⟩)) := (blk_cell hb1 0).trans rfl
  have s2 : w.cell? ⟨gp, 0, none⟩ = some (.slice (some ⟨g, 0, none⟩) l.length c) := (blk_cell hp 0).trans rfl
  have ngp : gp ≠ g := fun e => other_block hh hp (by decide) e.symm
  have ngb : b1 ≠ g := fun e => other_block hh hb1 (by decide) e.symm
  obtain ⟨l3, hl3⟩ : ∃ l3, l3 = l.take i ++ l.drop (i + 1) := ⟨_, rfl⟩
  rw [← hl3]
  have HL3 := Aside0.mk hl3
  have HM := Aside0.mk hm
  have HO := Aside0.mk ho
  have HP := Aside0.mk hp
  have HH := Aside0.mk hh
  have HB1 := Aside0.mk hb1
  have NGP := Aside0.mk ngp
  have NGB := Aside0.mk ngb
  have HG := Aside0.mk hg
  have hi0 : (0 : Int) ≤ (i : Int) := by omega
  have hi1 : (i : Int) ≤ 64 := by omega
  clear hl3 hm ho hp hh hb1 ngp ngb h3 h4 h5 h6 hg hlt
  go_enter Tryz.func161, Tryz.ntmps161
  go_wp2
  refine start_ (n := 14) (S := fun w' => w'.cell? ⟨b1, 0, none⟩ = some (.pointer (some ⟨gp, 0, none⟩)) ∧ w'.cell? ⟨gp, 0, none⟩ = some (.slice (some ⟨g, 0, none⟩) l.length c)) (ds := [13]) #[false, false, false, false, false, false, false, false, false, false, false, false, false, false] (by kernel_rfl) rfl rfl ⟨s1, s2⟩ (fun hHeld => ?_)
  refine pure_ (i := 6) (N := some 9) (v := ?_) (a' := ?_) #[false, false, false, false, false, false, true, false, false, false, false, false, false, false] rfl rfl (by kernel_rfl) (fun _ _ _ h => h) (Or.inl ⟨by rfl, ?_⟩) ?_ ?_
  rotate_left
  · intro w'
    go_simp
    with_reducible rfl
  rotate_left
  · simp only [Act.put, List.setIfInBounds_toArray, List.set_cons_zero, List.set_cons_succ, i64_w, i32_w]
    rfl
  refine pure_ (i := 7) (N := some 10) (v := ?_) (a' := ?_) #[false, false, false, false, false, false, true, true, false, false, false, false, false, false] rfl rfl (by kernel_rfl) (fun _ _ _ h => h) (Or.inl ⟨by rfl, ?_⟩) ?_ ?_
  rotate_left
  · intro w'
    go_simp
    with_reducible rfl
  rotate_left
  · simp only [Act.put, List.setIfInBounds_toArray, List.set_cons_zero, List.set_cons_succ, i64_w, i32_w]
    rfl
  refine pure_ (i := 8) (N := some 11) (v := ?_) (a' := ?_) #[false, false, false, false, false, false, true, true, true, false, false, false, false, false] rfl rfl (by kernel_rfl) (fun _ _ _ h => h) (Or.inl ⟨by rfl, ?_⟩) ?_ ?_
  rotate_left
  · intro w'
    go_simp
    with_reducible rfl
  rotate_left
  · simp only [Act.put, List.setIfInBounds_toArray, List.set_cons_zero, List.set_cons_succ, i64_w, i32_w]
    rfl
  refine take_ (i := 0) (N := some 3) (v := ?_) (a' := ?_) #[true, false, false, false, false, false, true, true, true, false, false, false, false, false] rfl rfl (by kernel_rfl) (fun _ _ _ h => h) (Or.inl ⟨by rfl, ?_⟩) hHeld ?_ ?_
  rotate_left
  · rintro w' ⟨s0, s1⟩
    go_simp
    with_reducible rfl
  rotate_left
  · simp only [Act.put, List.setIfInBounds_toArray, List.set_cons_zero, List.set_cons_succ, i64_w, i32_w]
    rfl
  refine take_ (i := 1) (N := some 4) (v := ?_) (a' := ?_) #[true, true, false, false, false, false, true, true, true, false, false, false, false, false] rfl rfl (by kernel_rfl) (fun _ _ _ h => h) (Or.inl ⟨by rfl, ?_⟩) hHeld ?_ ?_
  rotate_left
  · rintro w' ⟨s0, s1⟩
    go_simp
    with_reducible rfl
  rotate_left
  · simp only [Act.put, List.setIfInBounds_toArray, List.set_cons_zero, List.set_cons_succ, i64_w, i32_w]
    rfl
  refine pure_ (i := 2) (N := some 5) (v := ?_) (a' := ?_) #[true, true, true, false, false, false, true, true, true, false, false, false, false, false] rfl rfl (by kernel_rfl) (fun _ _ _ h => h) (Or.inl ⟨by rfl, ?_⟩) ?_ ?_
  rotate_left
  · intro w'
    go_simp
    with_reducible rfl
  rotate_left
  · simp only [Act.put, List.setIfInBounds_toArray, List.set_cons_zero, List.set_cons_succ, i64_w, i32_w]
    rfl
  refine pure_ (i := 3) (N := some 6) (v := ?_) (a' := ?_) #[true, true, true, true, false, false, true, true, true, false, false, false, false, false] rfl rfl (by kernel_rfl) (fun _ _ _ h => h) (Or.inl ⟨by rfl, ?_⟩) ?_ ?_
  rotate_left
  · intro w'
    go_simp
    with_reducible rfl
  rotate_left
  · simp only [Act.put, List.setIfInBounds_toArray, List.set_cons_zero, List.set_cons_succ, i64_w, i32_w]
    rfl
  refine pure_ (i := 4) (N := some 7) (v := ?_) (a' := ?_) #[true, true, true, true, true, false, true, true, true, false, false, false, false, false] rfl rfl (by kernel_rfl) (fun _ _ _ h => h) (Or.inl ⟨by rfl, ?_⟩) ?_ ?_
  rotate_left
  · intro w'
    go_simp
    with_reducible rfl
  rotate_left
  · simp only [Act.put, List.setIfInBounds_toArray, List.set_cons_zero, List.set_cons_succ, i64_w, i32_w]
    rfl
  refine take_ (i := 5) (N := some 8) (v := ?_) (a' := ?_) #[true, true, true, true, true, true, true, true, true, false, false, false, false, false] rfl rfl (by kernel_rfl) (fun _ _ _ h => h) (Or.inl ⟨by rfl, ?_⟩) hHeld ?_ ?_
  rotate_left
  · rintro w' ⟨s0, s1⟩
    go_simp
    with_reducible rfl
  rotate_left
  · simp only [Act.put, List.setIfInBounds_toArray, List.set_cons_zero, List.set_cons_succ, i64_w, i32_w]
    rfl
  refine one_ (i := 9) (N := some 12) #[true, true, true, true, true, true, true, true, true, true, false, false, false, false] rfl rfl (by kernel_rfl) (by decide) (fun K hK => ?_)
  refine goes_ Tryz.func162 (by kernel_rfl) rfl #[.slice (some ⟨g, 0, none⟩) l.length c, .int .i64 (i : Int), .int .i64 (wrap64 ((i : Int) + 1))] (by rfl) rfl rfl (by simp only [List.map_toArray, List.map_cons, List.map_nil]; rfl) ?_
  refine (calls_of_args (args' := #[.slice (some ⟨g, 0, none⟩) (i + m + 1) c, .int .i64 (i : Int), .int .i64 ((i : Int) + 1)]) (by rw [HM.out, show wrap64 ((i : Int) + 1) = (i : Int) + 1 by unfold wrap64; omega]) (delete_any w.drew base l g c i m HM.out hn (Kd.R_drew HO.out))).mono ?_
  rintro e w4 ⟨rfl, hR, hB, hk⟩
  rw [← HL3.out] at hR
  have HR4 := Aside0.mk hR
  have HB4 := Aside0.mk hB
  have hp4 := (hk gp NGP.out).trans HP.out
  have HK4 := Aside0.mk hk
  have hfr := blk_frozen hp4 0
  have HP4 := Aside0.mk hp4
  have hbb4 := Aside0.mk ((hk b1 NGB.out).trans HB1.out)
  clear hR hB hk hp4
  refine ⟨_, rfl, ?_⟩
  refine hK.out _ _ ⟨((blk_cell hbb4.out 0).trans rfl), ((blk_cell HP4.out 0).trans rfl)⟩ (fun hHeld => ?_)
  clear hK K
  refine norm_ (a' := ?_) ?_ ?_
  rotate_left
  · show Act.put _ (some 12) _ = _
    simp only [Act.put, List.setIfInBounds_toArray, List.set_cons_zero, List.set_cons_succ, i64_w, i32_w]
    rfl
  refine pure_ (i := 10) (N := some 13) (v := ?_) (a' := ?_) #[true, true, true, true, true, true, true, true, true, true, true, false, false, false] rfl rfl (by kernel_rfl) (fun _ _ _ h => h) (Or.inl ⟨by rfl, ?_⟩) ?_ ?_
  rotate_left
  · intro w'
    go_simp
    with_reducible rfl
  rotate_left
  · simp only [Act.put, List.setIfInBounds_toArray, List.set_cons_zero, List.set_cons_succ, i64_w, i32_w]
    rfl
  refine pure_ (i := 11) (N := some 14) (v := ?_) (a' := ?_) #[true, true, true, true, true, true, true, true, true, true, true, true, false, false] rfl rfl (by kernel_rfl) (fun _ _ _ h => h) (Or.inl ⟨by rfl, ?_⟩) ?_ ?_
  rotate_left
  · intro w'
    go_simp
    with_reducible rfl
  rotate_left
  · simp only [Act.put, List.setIfInBounds_toArray, List.set_cons_zero, List.set_cons_succ, i64_w, i32_w]
    rfl
  refine pure_ (i := 12) (N := some 15) (v := ?_) (a' := ?_) #[true, true, true, true, true, true, true, true, true, true, true, true, true, false] rfl rfl (by kernel_rfl) (fun _ _ _ h => h) (Or.inl ⟨by rfl, ?_⟩) ?_ ?_
  rotate_left
  · intro w'
    go_simp
    with_reducible rfl
  rotate_left
  · simp only [Act.put, List.setIfInBounds_toArray, List.set_cons_zero, List.set_cons_succ, i64_w, i32_w]
    rfl
  refine last_ (i := 13) (N := none) #[true, true, true, true, true, true, true, true, true, true, true, true, true, true] rfl rfl (by kernel_rfl) (by decide) (fun K hK => ?_)
  refine skip_ (w1 := ?_) (by rfl) rfl ?_ ?_
  rotate_left
  · go_simp
    rfl
  refine hK.out _ _ ?_
  clear hK K
  refine done_ (by kernel_rfl) ?_
  go_end0
  have hlen : l3.length = i + m := by rw [HL3.out, List.length_append, List.length_take, List.length_drop, HM.out]; omega
  refine ⟨rfl, .slice (some ⟨g, 0, none⟩) (i + m) c, blk_put (cs := #[.slice (some ⟨g, 0, none⟩) l.length c, .bool dn, .int .i64 fu, .int .i64 fa]) HP4.out 0 _ rfl, R1 (j := 0) HR4.out HP4.out (by decide) _, (below_drew' HB4.out).setCell hgpb _, fun k cs h => ?_⟩
  have hk := other_block h HH.out (by decide)
  exact blk_far (p := ⟨gp, 0, none⟩) ((HK4.out k hk).trans h) (other_block h HP.out (by decide)) _
set_option maxHeartbeats 4000000 in
set_option maxRecDepth 100000 in
theorem remove_of (W : World) (l : List S67) (dn : Bool) (fu fa : Int) (sd : Int → List S67) (hsd : ∀ (i : Nat), i < l.length → sd (i : Int) = l.take i ++ l.drop (i + 1)) :
    OfV W 118 #[] l dn fu fa false (fun _ b => if b = true then 0 else 7) sd := by
  intro w1 gp v hb hgp hp ho hok
  obtain ⟨A, c, rfl⟩ := Kd.R_slice ho
  have hlt : gp < w1.heap.size := blk_lt hp
  have hle : l.length ≤ 64 := by
    simp only [rightF, Bool.and_eq_true, decide_eq_true_eq] at hok
    exact hok.2
  go_enter Tryz.func118, Tryz.ntmps118
  go_wp2
  refine bodyPost_ret (results_cell_row rfl _ _ (w1.heap.size + 1) 179 #[.func (.func 160) #[] #[], .func (.func 161) #[] #[.pointer (some ⟨w1.heap.size, 0, none⟩)], .bool false] (0, 0) _ rfl (new2 w1 _ _) Tryz.underlying179 rfl (by kernel_rfl)) rfl ?_
  refine ⟨_, _, rfl, below_alloc (below_alloc (Below.refl _ _) _) _, ⟨160, #[], rfl, enters49, fun w3 i b _ _ _ => calls_of_args (by simp) ((there_any i b w3).mono ?_)⟩, 161, _, rfl, enters53, fun w3 i b dn fu fa hk hil hib hrf hp3 ho3 => ?_⟩
  · rintro e w4 ⟨rfl, rfl⟩
    exact ⟨rfl, Below.refl _ _⟩
  · have hbt : b = true := by
      cases b
      · simp at hrf
      · rfl
    refine calls_of_args (by simp) ((remove_do gp w1.heap.size w3 W.heap.size l A c dn fu fa i (hib hbt) hle (hk _ _ _ (by decide) (by decide) (fun h => by injection h with h; omega) (new1 w1 _ _)) ⟨hp3, ho3⟩ hgp).mono fun e w4 h => ?_)
    rw [hsd i (hib hbt)]
    exact h
end Go.Proofs.YtanonhipicoigaaGreatDoor.U
namespace Go.Proofs.YtanonhipicoigaaGreatDoor.U
open Go.RowKit Go.Proofs.YtanonhipicoigaaGreatDoorW.PrintWords Go.Proofs.YtanonhipicoigaaGreatDoorW.PrintLast Go.Proofs.YtanonhipicoigaaGreatDoorW.PrintMore
set_option linter.unusedVariables false
set_option linter.unusedSimpArgs false
/-! ### Create -/
def disk_Create.f (l0_0 : List (S67)) (a0_1 : Bool) (a0_2 : Int) (a0_3 : Int) (a1 : ByteArray) : Option ((List (S67)) × Bool × Int × Int × Int) := some (changedF l0_0 a0_1 a0_2 a0_3 a1 false (rfC a1 l0_0.length) (fun i => l0_0.take i.toNat ++ [(⟨a1, ⟨#[]⟩, 0⟩ : S67)] ++ l0_0.drop i.toNat))
set_option maxHeartbeats 4000000 in
set_option maxRecDepth 100000 in
theorem disk_Create.calls (A0_0 : Option Addr) (c0_0 : Nat) (l0_0 : List (S67)) (a0_1 : Bool) (a0_2 : Int) (a0_3 : Int) (a1 : ByteArray) (r1 : List (S67)) (r2 : Bool) (r3 : Int) (r4 : Int) (r5 : Int) (w : World) (hr0_0 : Kd.C k67 w A0_0 l0_0.length l0_0) (hc0_0 : l0_0.length ≤ c0_0) (h : disk_Create.f l0_0 a0_1 a0_2 a0_3 a1 = some (r1, r2, r3, r4, r5)) :
    Calls Tryz.prog 80 #[.agg #[.slice A0_0 l0_0.length c0_0, .bool a0_1, .int .i64 a0_2, .int .i64 a0_3], .string a1] w fun e w' => ∃ v0_ : Value, e = .returned (.tuple #[.agg #[v0_, .bool r2, .int .i64 r3, .int .i64 r4], .int .i64 r5]) ∧ Kd.R k67 67 w' w.heap.size (fun _ => True) v0_ r1 ∧ Below w.heap.size w w' := by
  unfold disk_Create.f at h
  have HE := Aside0.mk (Option.some.inj h)
  clear h
  have HR := Aside0.mk hr0_0
  have HC := Aside0.mk hc0_0
  clear hr0_0 hc0_0
  have HB := Aside0.mk (Below.refl w.heap.size w)
  go_enter Tryz.func80, Tryz.ntmps80
  go_wp2_with (first
    | ((with_reducible refine gate_dst (N := 2) rfl ?_);
        refine box_event ?hg (N := 2) ?hd (cs := #[.slice A0_0 l0_0.length c0_0, .bool a0_1, .int .i64 a0_2, .int .i64 a0_3]) (t := 27) ?hr ?_;
        (case hd => rfl); (case hg => rfl); (case hr => first | (go_simp; done) | (go_simp; rfl));
        intro gd hg w1 hbox hb;
        have n0_ := Aside0.mk (below_step HB.out hb);
        clear HB; have HB := n0_; have BKD := Aside0.mk hbox; clear n0_ hg hbox hb)
    | ((with_reducible refine gate_dst (N := 3) rfl ?_);
        refine box_event ?hg (N := 3) ?hd (cs := #[.string a1]) (t := 9) ?hr ?_;
        (case hd => rfl); (case hg => rfl); (case hr => first | (go_simp; done) | (go_simp; rfl));
        intro gn hg w2 hbox hb;
        have n0_ := Aside0.mk (below_step HB.out hb); have n1_ := Aside0.mk (blk_below BKD.out hb);
        clear HB BKD; have HB := n0_; have BKD := n1_; have BKN := Aside0.mk hbox; clear n0_ n1_ hg hbox hb)
    | ((with_reducible refine gate_dst (N := 4) rfl ?_);
        refine box_event ?hg (N := 4) ?hd (cs := #[.slice none 0 0, .bool false, .int .i64 0, .int .i64 0]) (t := 27) ?hr ?_;
        (case hd => rfl); (case hg => rfl); (case hr => first | (go_simp; done) | (go_simp; rfl));
        intro gr hg w3 hbox hb;
        have n0_ := Aside0.mk (below_step HB.out hb); have n1_ := Aside0.mk (blk_below BKD.out hb); have n2_ := Aside0.mk (blk_below BKN.out hb);
        have GR := Aside0.mk (show w.heap.size ≤ gr by rw [hg]; exact HB.out.size);
        clear HB BKD BKN; have HB := n0_; have BKD := n1_; have BKN := n2_; have BKR := Aside0.mk hbox; clear n0_ n1_ n2_ hg hbox hb;
        have d0 : w3.cell? ⟨gd, 0, none⟩ = some (.slice A0_0 l0_0.length c0_0) := (blk_cell BKD.out 0).trans rfl;
        have d1 : w3.cell? ⟨gd, 1, none⟩ = some (.bool a0_1) := (blk_cell BKD.out 1).trans rfl;
        have d2 : w3.cell? ⟨gd, 2, none⟩ = some (.int .i64 a0_2) := (blk_cell BKD.out 2).trans rfl;
        have d3 : w3.cell? ⟨gd, 3, none⟩ = some (.int .i64 a0_3) := (blk_cell BKD.out 3).trans rfl; have dn : w3.cell? ⟨gn, 0, none⟩ = some (.string a1) := (blk_cell BKN.out 0).trans rfl)
    | fail)
  refine ((changed_any 124 _ (fun args w => enters_ Tryz.func124 (by kernel_rfl) (by kernel_rfl) args w) A0_0 c0_0 l0_0 a0_1 a0_2 a0_3 a1 w3 (Kd.C_below HR.out HB.out) HC.out false (rfC a1 l0_0.length) (fun i => l0_0.take i.toNat ++ [(⟨a1, ⟨#[]⟩, 0⟩ : S67)] ++ l0_0.drop i.toNat) ?hof).mono ?_)
  case hof => exact create_of w3 gn l0_0 a0_1 a0_2 a0_3 a1 _ (fun i hi => by simp) BKN.out
  rw [HE.out]
  rintro e w4 ⟨v, rfl, ho, hb⟩
  have HO := Aside0.mk (Kd.R_lower ho HB.out.size)
  obtain ⟨A4, c4, e4⟩ := Kd.R_slice ho
  subst e4
  have n0_ := Aside0.mk (below_step HB.out hb)
  have bk := blk_below BKR.out hb
  have c0 := (blk_cell bk 0).trans rfl
  have c1 := (blk_cell bk 1).trans rfl
  have c2 := (blk_cell bk 2).trans rfl
  have c3 := (blk_cell bk 3).trans rfl
  have f0 := blk_frozen bk 0
  have f1 := blk_frozen bk 1
  have f2 := blk_frozen bk 2
  have f3 := blk_frozen bk 3
  have BK4 := Aside0.mk bk
  clear ho hb bk HB BKD BKR d0 d1 d2 d3 BKN dn
  go_wp2
  refine bodyPost_ret (results_ct rfl _ _ gr 27 #[.slice A4 r1.length c4, .bool r2, .int .i64 r3, .int .i64 r4] (0, 0) _ rfl (put4 BK4.out _ _ _ _) Tryz.underlying27 rfl (by kernel_rfl)) rfl ?_
  exact ⟨_, rfl, R4 HO.out BK4.out (by decide) _ _ _ _, below4 n0_.out GR.out _ _ _ _⟩
/-! ### Append -/
def disk_Append.f (l0_0 : List (S67)) (a0_1 : Bool) (a0_2 : Int) (a0_3 : Int) (a1 : ByteArray) (a2 : ByteArray) : Option ((List (S67)) × Bool × Int × Int × Int) := some (changedF l0_0 a0_1 a0_2 a0_3 a1 true (rfW a2 l0_0) (fun i => l0_0.set i.toNat ⟨(rd_T67 l0_0 i).f0, (rd_T67 l0_0 i).f1 ++ a2, (rd_T67 l0_0 i).f2⟩))
set_option maxHeartbeats 4000000 in
set_option maxRecDepth 100000 in
theorem disk_Append.calls (A0_0 : Option Addr) (c0_0 : Nat) (l0_0 : List (S67)) (a0_1 : Bool) (a0_2 : Int) (a0_3 : Int) (a1 : ByteArray) (a2 : ByteArray) (r1 : List (S67)) (r2 : Bool) (r3 : Int) (r4 : Int) (r5 : Int) (w : World) (hr0_0 : Kd.C k67 w A0_0 l0_0.length l0_0) (hc0_0 : l0_0.length ≤ c0_0) (h : disk_Append.f l0_0 a0_1 a0_2 a0_3 a1 a2 = some (r1, r2, r3, r4, r5)) :
    Calls Tryz.prog 82 #[.agg #[.slice A0_0 l0_0.length c0_0, .bool a0_1, .int .i64 a0_2, .int .i64 a0_3], .string a1, .string a2] w fun e w' => ∃ v0_ : Value, e = .returned (.tuple #[.agg #[v0_, .bool r2, .int .i64 r3, .int .i64 r4], .int .i64 r5]) ∧ Kd.R k67 67 w' w.heap.size (fun _ => True) v0_ r1 ∧ Below w.heap.size w w' := by
  unfold disk_Append.f at h
  have HE := Aside0.mk (Option.some.inj h)
  clear h
  have HR := Aside0.mk hr0_0
  have HC := Aside0.mk hc0_0
  clear hr0_0 hc0_0
  have HB := Aside0.mk (Below.refl w.heap.size w)
  go_enter Tryz.func82, Tryz.ntmps82
  go_wp2_with (first
    | ((with_reducible refine gate_dst (N := 3) rfl ?_);
        refine box_event ?hg (N := 3) ?hd (cs := #[.slice A0_0 l0_0.length c0_0, .bool a0_1, .int .i64 a0_2, .int .i64 a0_3]) (t := 27) ?hr ?_;
        (case hd => rfl); (case hg => rfl); (case hr => first | (go_simp; done) | (go_simp; rfl));
        intro gd hg w1 hbox hb;
        have n0_ := Aside0.mk (below_step HB.out hb);
        clear HB; have HB := n0_; have BKD := Aside0.mk hbox; clear n0_ hg hbox hb)
    | ((with_reducible refine gate_dst (N := 5) rfl ?_);
        refine box_event ?hg (N := 5) ?hd (cs := #[.string a2]) (t := 9) ?hr ?_;
        (case hd => rfl); (case hg => rfl); (case hr => first | (go_simp; done) | (go_simp; rfl));
        intro gn hg w2 hbox hb;
        have n0_ := Aside0.mk (below_step HB.out hb); have n1_ := Aside0.mk (blk_below BKD.out hb);
        clear HB BKD; have HB := n0_; have BKD := n1_; have BKN := Aside0.mk hbox; clear n0_ n1_ hg hbox hb)
    | ((with_reducible refine gate_dst (N := 6) rfl ?_);
        refine box_event ?hg (N := 6) ?hd (cs := #[.slice none 0 0, .bool false, .int .i64 0, .int .i64 0]) (t := 27) ?hr ?_;
        (case hd => rfl); (case hg => rfl); (case hr => first | (go_simp; done) | (go_simp; rfl));
        intro gr hg w3 hbox hb;
        have n0_ := Aside0.mk (below_step HB.out hb); have n1_ := Aside0.mk (blk_below BKD.out hb); have n2_ := Aside0.mk (blk_below BKN.out hb);
        have GR := Aside0.mk (show w.heap.size ≤ gr by rw [hg]; exact HB.out.size);
        clear HB BKD BKN; have HB := n0_; have BKD := n1_; have BKN := n2_; have BKR := Aside0.mk hbox; clear n0_ n1_ n2_ hg hbox hb;
        have d0 : w3.cell? ⟨gd, 0, none⟩ = some (.slice A0_0 l0_0.length c0_0) := (blk_cell BKD.out 0).trans rfl;
        have d1 : w3.cell? ⟨gd, 1, none⟩ = some (.bool a0_1) := (blk_cell BKD.out 1).trans rfl;
        have d2 : w3.cell? ⟨gd, 2, none⟩ = some (.int .i64 a0_2) := (blk_cell BKD.out 2).trans rfl;
        have d3 : w3.cell? ⟨gd, 3, none⟩ = some (.int .i64 a0_3) := (blk_cell BKD.out 3).trans rfl; have dn : w3.cell? ⟨gn, 0, none⟩ = some (.string a2) := (blk_cell BKN.out 0).trans rfl)
    | fail)
  refine ((changed_any 128 _ (fun args w => enters_ Tryz.func128 (by kernel_rfl) (by kernel_rfl) args w) A0_0 c0_0 l0_0 a0_1 a0_2 a0_3 a1 w3 (Kd.C_below HR.out HB.out) HC.out true (rfW a2 l0_0) (fun i => l0_0.set i.toNat ⟨(rd_T67 l0_0 i).f0, (rd_T67 l0_0 i).f1 ++ a2, (rd_T67 l0_0 i).f2⟩) ?hof).mono ?_)
  case hof => exact write_of w3 gn l0_0 a0_1 a0_2 a0_3 a2 _ (fun i x hx hs => by simp only [Int.toNat_natCast]; rw [rd_get hx]) BKN.out
  rw [HE.out]
  rintro e w4 ⟨v, rfl, ho, hb⟩
  have HO := Aside0.mk (Kd.R_lower ho HB.out.size)
  obtain ⟨A4, c4, e4⟩ := Kd.R_slice ho
  subst e4
  have n0_ := Aside0.mk (below_step HB.out hb)
  have bk := blk_below BKR.out hb
  have c0 := (blk_cell bk 0).trans rfl
  have c1 := (blk_cell bk 1).trans rfl
  have c2 := (blk_cell bk 2).trans rfl
  have c3 := (blk_cell bk 3).trans rfl
  have f0 := blk_frozen bk 0
  have f1 := blk_frozen bk 1
  have f2 := blk_frozen bk 2
  have f3 := blk_frozen bk 3
  have BK4 := Aside0.mk bk
  clear ho hb bk HB BKD BKR d0 d1 d2 d3 BKN dn
  go_wp2
  refine bodyPost_ret (results_ct rfl _ _ gr 27 #[.slice A4 r1.length c4, .bool r2, .int .i64 r3, .int .i64 r4] (0, 0) _ rfl (put4 BK4.out _ _ _ _) Tryz.underlying27 rfl (by kernel_rfl)) rfl ?_
  exact ⟨_, rfl, R4 HO.out BK4.out (by decide) _ _ _ _, below4 n0_.out GR.out _ _ _ _⟩
/-! ### Cut -/
def disk_Cut.f (l0_0 : List (S67)) (a0_1 : Bool) (a0_2 : Int) (a0_3 : Int) (a1 : ByteArray) (a2 : Int) : Option ((List (S67)) × Bool × Int × Int × Int) := some (changedF l0_0 a0_1 a0_2 a0_3 a1 false (rfT a2 l0_0) (fun i => l0_0.set i.toNat ⟨(rd_T67 l0_0 i).f0, (rd_T67 l0_0 i).f1.extract 0 a2.toNat, a2⟩))
set_option maxHeartbeats 4000000 in
set_option maxRecDepth 100000 in
theorem disk_Cut.calls (A0_0 : Option Addr) (c0_0 : Nat) (l0_0 : List (S67)) (a0_1 : Bool) (a0_2 : Int) (a0_3 : Int) (a1 : ByteArray) (a2 : Int) (r1 : List (S67)) (r2 : Bool) (r3 : Int) (r4 : Int) (r5 : Int) (w : World) (hr0_0 : Kd.C k67 w A0_0 l0_0.length l0_0) (hc0_0 : l0_0.length ≤ c0_0) (h : disk_Cut.f l0_0 a0_1 a0_2 a0_3 a1 a2 = some (r1, r2, r3, r4, r5)) :
    Calls Tryz.prog 74 #[.agg #[.slice A0_0 l0_0.length c0_0, .bool a0_1, .int .i64 a0_2, .int .i64 a0_3], .string a1, .int .i64 a2] w fun e w' => ∃ v0_ : Value, e = .returned (.tuple #[.agg #[v0_, .bool r2, .int .i64 r3, .int .i64 r4], .int .i64 r5]) ∧ Kd.R k67 67 w' w.heap.size (fun _ => True) v0_ r1 ∧ Below w.heap.size w w' := by
  unfold disk_Cut.f at h
  have HE := Aside0.mk (Option.some.inj h)
  clear h
  have HR := Aside0.mk hr0_0
  have HC := Aside0.mk hc0_0
  clear hr0_0 hc0_0
  have HB := Aside0.mk (Below.refl w.heap.size w)
  go_enter Tryz.func74, Tryz.ntmps74
  go_wp2_with (first
    | ((with_reducible refine gate_dst (N := 3) rfl ?_);
        refine box_event ?hg (N := 3) ?hd (cs := #[.slice A0_0 l0_0.length c0_0, .bool a0_1, .int .i64 a0_2, .int .i64 a0_3]) (t := 27) ?hr ?_;
        (case hd => rfl); (case hg => rfl); (case hr => first | (go_simp; done) | (go_simp; rfl));
        intro gd hg w1 hbox hb;
        have n0_ := Aside0.mk (below_step HB.out hb);
        clear HB; have HB := n0_; have BKD := Aside0.mk hbox; clear n0_ hg hbox hb)
    | ((with_reducible refine gate_dst (N := 5) rfl ?_);
        refine box_event ?hg (N := 5) ?hd (cs := #[.int .i64 a2]) (t := 3) ?hr ?_;
        (case hd => rfl); (case hg => rfl); (case hr => first | (go_simp; done) | (go_simp; rfl));
        intro gn hg w2 hbox hb;
        have n0_ := Aside0.mk (below_step HB.out hb); have n1_ := Aside0.mk (blk_below BKD.out hb);
        clear HB BKD; have HB := n0_; have BKD := n1_; have BKN := Aside0.mk hbox; clear n0_ n1_ hg hbox hb)
    | ((with_reducible refine gate_dst (N := 6) rfl ?_);
        refine box_event ?hg (N := 6) ?hd (cs := #[.slice none 0 0, .bool false, .int .i64 0, .int .i64 0]) (t := 27) ?hr ?_;
        (case hd => rfl); (case hg => rfl); (case hr => first | (go_simp; done) | (go_simp; rfl));
        intro gr hg w3 hbox hb;
        have n0_ := Aside0.mk (below_step HB.out hb); have n1_ := Aside0.mk (blk_below BKD.out hb); have n2_ := Aside0.mk (blk_below BKN.out hb);
        have GR := Aside0.mk (show w.heap.size ≤ gr by rw [hg]; exact HB.out.size);
        clear HB BKD BKN; have HB := n0_; have BKD := n1_; have BKN := n2_; have BKR := Aside0.mk hbox; clear n0_ n1_ n2_ hg hbox hb;
        have d0 : w3.cell? ⟨gd, 0, none⟩ = some (.slice A0_0 l0_0.length c0_0) := (blk_cell BKD.out 0).trans rfl;
        have d1 : w3.cell? ⟨gd, 1, none⟩ = some (.bool a0_1) := (blk_cell BKD.out 1).trans rfl;
        have d2 : w3.cell? ⟨gd, 2, none⟩ = some (.int .i64 a0_2) := (blk_cell BKD.out 2).trans rfl;
        have d3 : w3.cell? ⟨gd, 3, none⟩ = some (.int .i64 a0_3) := (blk_cell BKD.out 3).trans rfl; have dn : w3.cell? ⟨gn, 0, none⟩ = some (.int .i64 a2) := (blk_cell BKN.out 0).trans rfl)
    | fail)
  refine ((changed_any 119 _ (fun args w => enters_ Tryz.func119 (by kernel_rfl) (by kernel_rfl) args w) A0_0 c0_0 l0_0 a0_1 a0_2 a0_3 a1 w3 (Kd.C_below HR.out HB.out) HC.out false (rfT a2 l0_0) (fun i => l0_0.set i.toNat ⟨(rd_T67 l0_0 i).f0, (rd_T67 l0_0 i).f1.extract 0 a2.toNat, a2⟩) ?hof).mono ?_)
  case hof => exact cut_of w3 gn l0_0 a0_1 a0_2 a0_3 a2 _ (fun i n x hx he hn => by subst he; simp only [Int.toNat_natCast]; rw [rd_get hx]) BKN.out
  rw [HE.out]
  rintro e w4 ⟨v, rfl, ho, hb⟩
  have HO := Aside0.mk (Kd.R_lower ho HB.out.size)
  obtain ⟨A4, c4, e4⟩ := Kd.R_slice ho
  subst e4
  have n0_ := Aside0.mk (below_step HB.out hb)
  have bk := blk_below BKR.out hb
  have c0 := (blk_cell bk 0).trans rfl
  have c1 := (blk_cell bk 1).trans rfl
  have c2 := (blk_cell bk 2).trans rfl
  have c3 := (blk_cell bk 3).trans rfl
  have f0 := blk_frozen bk 0
  have f1 := blk_frozen bk 1
  have f2 := blk_frozen bk 2
  have f3 := blk_frozen bk 3
  have BK4 := Aside0.mk bk
  clear ho hb bk HB BKD BKR d0 d1 d2 d3 BKN dn
  go_wp2
  refine bodyPost_ret (results_ct rfl _ _ gr 27 #[.slice A4 r1.length c4, .bool r2, .int .i64 r3, .int .i64 r4] (0, 0) _ rfl (put4 BK4.out _ _ _ _) Tryz.underlying27 rfl (by kernel_rfl)) rfl ?_
  exact ⟨_, rfl, R4 HO.out BK4.out (by decide) _ _ _ _, below4 n0_.out GR.out _ _ _ _⟩
/-! ### Sync -/
def disk_Sync.f (l0_0 : List (S67)) (a0_1 : Bool) (a0_2 : Int) (a0_3 : Int) (a1 : ByteArray) : Option ((List (S67)) × Bool × Int × Int × Int) := some (changedF l0_0 a0_1 a0_2 a0_3 a1 false (fun _ b => if b = true then 0 else 7) (fun i => l0_0.set i.toNat ⟨(rd_T67 l0_0 i).f0, (rd_T67 l0_0 i).f1, ((rd_T67 l0_0 i).f1.size : Int)⟩))
set_option maxHeartbeats 4000000 in
set_option maxRecDepth 100000 in
theorem disk_Sync.calls (A0_0 : Option Addr) (c0_0 : Nat) (l0_0 : List (S67)) (a0_1 : Bool) (a0_2 : Int) (a0_3 : Int) (a1 : ByteArray) (r1 : List (S67)) (r2 : Bool) (r3 : Int) (r4 : Int) (r5 : Int) (w : World) (hr0_0 : Kd.C k67 w A0_0 l0_0.length l0_0) (hc0_0 : l0_0.length ≤ c0_0) (h : disk_Sync.f l0_0 a0_1 a0_2 a0_3 a1 = some (r1, r2, r3, r4, r5)) :
    Calls Tryz.prog 83 #[.agg #[.slice A0_0 l0_0.length c0_0, .bool a0_1, .int .i64 a0_2, .int .i64 a0_3], .string a1] w fun e w' => ∃ v0_ : Value, e = .returned (.tuple #[.agg #[v0_, .bool r2, .int .i64 r3, .int .i64 r4], .int .i64 r5]) ∧ Kd.R k67 67 w' w.heap.size (fun _ => True) v0_ r1 ∧ Below w.heap.size w w' := by
  unfold disk_Sync.f at h
  have HE := Aside0.mk (Option.some.inj h)
  clear h
  have HR := Aside0.mk hr0_0
  have HC := Aside0.mk hc0_0
  clear hr0_0 hc0_0
  have HB := Aside0.mk (Below.refl w.heap.size w)
  go_enter Tryz.func83, Tryz.ntmps83
  go_wp2_with (first
    | ((with_reducible refine gate_dst (N := 2) rfl ?_);
        refine box_event ?hg (N := 2) ?hd (cs := #[.slice A0_0 l0_0.length c0_0, .bool a0_1, .int .i64 a0_2, .int .i64 a0_3]) (t := 27) ?hr ?_;
        (case hd => rfl); (case hg => rfl); (case hr => first | (go_simp; done) | (go_simp; rfl));
        intro gd hg w1 hbox hb;
        have n0_ := Aside0.mk (below_step HB.out hb);
        clear HB; have HB := n0_; have BKD := Aside0.mk hbox; clear n0_ hg hbox hb)
    | ((with_reducible refine gate_dst (N := 4) rfl ?_);
        refine box_event ?hg (N := 4) ?hd (cs := #[.slice none 0 0, .bool false, .int .i64 0, .int .i64 0]) (t := 27) ?hr ?_;
        (case hd => rfl); (case hg => rfl); (case hr => first | (go_simp; done) | (go_simp; rfl));
        intro gr hg w3 hbox hb;
        have n0_ := Aside0.mk (below_step HB.out hb); have n1_ := Aside0.mk (blk_below BKD.out hb);
        have GR := Aside0.mk (show w.heap.size ≤ gr by rw [hg]; exact HB.out.size);
        clear HB BKD; have HB := n0_; have BKD := n1_; have BKR := Aside0.mk hbox; clear n0_ n1_ hg hbox hb;
        have d0 : w3.cell? ⟨gd, 0, none⟩ = some (.slice A0_0 l0_0.length c0_0) := (blk_cell BKD.out 0).trans rfl;
        have d1 : w3.cell? ⟨gd, 1, none⟩ = some (.bool a0_1) := (blk_cell BKD.out 1).trans rfl;
        have d2 : w3.cell? ⟨gd, 2, none⟩ = some (.int .i64 a0_2) := (blk_cell BKD.out 2).trans rfl;
        have d3 : w3.cell? ⟨gd, 3, none⟩ = some (.int .i64 a0_3) := (blk_cell BKD.out 3).trans rfl)
    | fail)
  refine ((changed_any 130 _ (fun args w => enters_ Tryz.func130 (by kernel_rfl) (by kernel_rfl) args w) A0_0 c0_0 l0_0 a0_1 a0_2 a0_3 a1 w3 (Kd.C_below HR.out HB.out) HC.out false (fun _ b => if b = true then 0 else 7) (fun i => l0_0.set i.toNat ⟨(rd_T67 l0_0 i).f0, (rd_T67 l0_0 i).f1, ((rd_T67 l0_0 i).f1.size : Int)⟩) ?hof).mono ?_)
  case hof => exact sync_of w3 l0_0 a0_1 a0_2 a0_3 _ (fun i x hx => by simp only [Int.toNat_natCast]; rw [rd_get hx])
  rw [HE.out]
  rintro e w4 ⟨v, rfl, ho, hb⟩
  have HO := Aside0.mk (Kd.R_lower ho HB.out.size)
  obtain ⟨A4, c4, e4⟩ := Kd.R_slice ho
  subst e4
  have n0_ := Aside0.mk (below_step HB.out hb)
  have bk := blk_below BKR.out hb
  have c0 := (blk_cell bk 0).trans rfl
  have c1 := (blk_cell bk 1).trans rfl
  have c2 := (blk_cell bk 2).trans rfl
  have c3 := (blk_cell bk 3).trans rfl
  have f0 := blk_frozen bk 0
  have f1 := blk_frozen bk 1
  have f2 := blk_frozen bk 2
  have f3 := blk_frozen bk 3
  have BK4 := Aside0.mk bk
  clear ho hb bk HB BKD BKR d0 d1 d2 d3
  go_wp2
  refine bodyPost_ret (results_ct rfl _ _ gr 27 #[.slice A4 r1.length c4, .bool r2, .int .i64 r3, .int .i64 r4] (0, 0) _ rfl (put4 BK4.out _ _ _ _) Tryz.underlying27 rfl (by kernel_rfl)) rfl ?_
  exact ⟨_, rfl, R4 HO.out BK4.out (by decide) _ _ _ _, below4 n0_.out GR.out _ _ _ _⟩
/-! ### Remove -/
def disk_Remove.f (l0_0 : List (S67)) (a0_1 : Bool) (a0_2 : Int) (a0_3 : Int) (a1 : ByteArray) : Option ((List (S67)) × Bool × Int × Int × Int) := some (changedF l0_0 a0_1 a0_2 a0_3 a1 false (fun _ b => if b = true then 0 else 7) (fun i => l0_0.take i.toNat ++ l0_0.drop (i.toNat + 1)))
set_option maxHeartbeats 4000000 in
set_option maxRecDepth 100000 in
theorem disk_Remove.calls (A0_0 : Option Addr) (c0_0 : Nat) (l0_0 : List (S67)) (a0_1 : Bool) (a0_2 : Int) (a0_3 : Int) (a1 : ByteArray) (r1 : List (S67)) (r2 : Bool) (r3 : Int) (r4 : Int) (r5 : Int) (w : World) (hr0_0 : Kd.C k67 w A0_0 l0_0.length l0_0) (hc0_0 : l0_0.length ≤ c0_0) (h : disk_Remove.f l0_0 a0_1 a0_2 a0_3 a1 = some (r1, r2, r3, r4, r5)) :
    Calls Tryz.prog 73 #[.agg #[.slice A0_0 l0_0.length c0_0, .bool a0_1, .int .i64 a0_2, .int .i64 a0_3], .string a1] w fun e w' => ∃ v0_ : Value, e = .returned (.tuple #[.agg #[v0_, .bool r2, .int .i64 r3, .int .i64 r4], .int .i64 r5]) ∧ Kd.R k67 67 w' w.heap.size (fun _ => True) v0_ r1 ∧ Below w.heap.size w w' := by
  unfold disk_Remove.f at h
  have HE := Aside0.mk (Option.some.inj h)
  clear h
  have HR := Aside0.mk hr0_0
  have HC := Aside0.mk hc0_0
  clear hr0_0 hc0_0
  have HB := Aside0.mk (Below.refl w.heap.size w)
  go_enter Tryz.func73, Tryz.ntmps73
  go_wp2_with (first
    | ((with_reducible refine gate_dst (N := 2) rfl ?_);
        refine box_event ?hg (N := 2) ?hd (cs := #[.slice A0_0 l0_0.length c0_0, .bool a0_1, .int .i64 a0_2, .int .i64 a0_3]) (t := 27) ?hr ?_;
        (case hd => rfl); (case hg => rfl); (case hr => first | (go_simp; done) | (go_simp; rfl));
        intro gd hg w1 hbox hb;
        have n0_ := Aside0.mk (below_step HB.out hb);
        clear HB; have HB := n0_; have BKD := Aside0.mk hbox; clear n0_ hg hbox hb)
    | ((with_reducible refine gate_dst (N := 4) rfl ?_);
        refine box_event ?hg (N := 4) ?hd (cs := #[.slice none 0 0, .bool false, .int .i64 0, .int .i64 0]) (t := 27) ?hr ?_;
        (case hd => rfl); (case hg => rfl); (case hr => first | (go_simp; done) | (go_simp; rfl));
        intro gr hg w3 hbox hb;
        have n0_ := Aside0.mk (below_step HB.out hb); have n1_ := Aside0.mk (blk_below BKD.out hb);
        have GR := Aside0.mk (show w.heap.size ≤ gr by rw [hg]; exact HB.out.size);
        clear HB BKD; have HB := n0_; have BKD := n1_; have BKR := Aside0.mk hbox; clear n0_ n1_ hg hbox hb;
        have d0 : w3.cell? ⟨gd, 0, none⟩ = some (.slice A0_0 l0_0.length c0_0) := (blk_cell BKD.out 0).trans rfl;
        have d1 : w3.cell? ⟨gd, 1, none⟩ = some (.bool a0_1) := (blk_cell BKD.out 1).trans rfl;
        have d2 : w3.cell? ⟨gd, 2, none⟩ = some (.int .i64 a0_2) := (blk_cell BKD.out 2).trans rfl;
        have d3 : w3.cell? ⟨gd, 3, none⟩ = some (.int .i64 a0_3) := (blk_cell BKD.out 3).trans rfl)
    | fail)
  refine ((changed_any 118 _ (fun args w => enters_ Tryz.func118 (by kernel_rfl) (by kernel_rfl) args w) A0_0 c0_0 l0_0 a0_1 a0_2 a0_3 a1 w3 (Kd.C_below HR.out HB.out) HC.out false (fun _ b => if b = true then 0 else 7) (fun i => l0_0.take i.toNat ++ l0_0.drop (i.toNat + 1)) ?hof).mono ?_)
  case hof => exact remove_of w3 l0_0 a0_1 a0_2 a0_3 _ (fun i hi => by simp)
  rw [HE.out]
  rintro e w4 ⟨v, rfl, ho, hb⟩
  have HO := Aside0.mk (Kd.R_lower ho HB.out.size)
  obtain ⟨A4, c4, e4⟩ := Kd.R_slice ho
  subst e4
  have n0_ := Aside0.mk (below_step HB.out hb)
  have bk := blk_below BKR.out hb
  have c0 := (blk_cell bk 0).trans rfl
  have c1 := (blk_cell bk 1).trans rfl
  have c2 := (blk_cell bk 2).trans rfl
  have c3 := (blk_cell bk 3).trans rfl
  have f0 := blk_frozen bk 0
  have f1 := blk_frozen bk 1
  have f2 := blk_frozen bk 2
  have f3 := blk_frozen bk 3
  have BK4 := Aside0.mk bk
  clear ho hb bk HB BKD BKR d0 d1 d2 d3
  go_wp2
  refine bodyPost_ret (results_ct rfl _ _ gr 27 #[.slice A4 r1.length c4, .bool r2, .int .i64 r3, .int .i64 r4] (0, 0) _ rfl (put4 BK4.out _ _ _ _) Tryz.underlying27 rfl (by kernel_rfl)) rfl ?_
  exact ⟨_, rfl, R4 HO.out BK4.out (by decide) _ _ _ _, below4 n0_.out GR.out _ _ _ _⟩
end Go.Proofs.YtanonhipicoigaaGreatDoor.U
namespace Go.Proofs.YtanonhipicoigaaGreatDoor.U
open Go.RowKit Go.Proofs.YtanonhipicoigaaGreatDoorW.PrintWords Go.Proofs.YtanonhipicoigaaGreatDoorW.PrintLast Go.Proofs.YtanonhipicoigaaGreatDoorW.PrintMore
set_option linter.unusedVariables false
set_option linter.unusedSimpArgs false
theorem max2_mx (k k' : IntKind) (x y : Int) : Builtin.max2 (.int k x) (.int k' y) = pure (.int k (mx x y)) := max2_int k k' x y
theorem min2_mn (k k' : IntKind) (x y : Int) : Builtin.min2 (.int k x) (.int k' y) = pure (.int k (mn x y)) := min2_int k k' x y
theorem rd_at {l : List Int} {k : Nat} (h : k < l.length) : l[k]? = some (rd l (k : Int)) := by
  simp [rd, List.getElem?_eq_getElem h]
attribute [local go_sem] max2_mx min2_mn max_two min_two   -- for this text's walks alone
/-! ### Crash -/
def crashS (x : S67) : Option Int → Int
  | none => x.f2
  | some v => x.f2 + mn (mx v 0) ((x.f1.size : Int) - x.f2)
def crash1 (x : S67) (k : Option Int) : S67 := ⟨x.f0, x.f1.extract 0 (crashS x k).toNat, crashS x k⟩
/-- The files behind a crash. -/
def crashF (l : List S67) (ks : List Int) : List S67 := l.mapIdx fun i x => crash1 x ks[i]?
theorem crashF_length (l : List S67) (ks : List Int) : (crashF l ks).length = l.length := by simp [crashF]
theorem crashF_get {l : List S67} {ks : List Int} {i : Nat} {x : S67} (h : l[i]? = some x) : (crashF l ks)[i]? = some (crash1 x ks[i]?) := by
  simp [crashF, List.getElem?_mapIdx, h]
theorem crashS_range {x : S67} (h0 : 0 ≤ x.f2) (h1 : x.f2 ≤ (x.f1.size : Int)) (k : Option Int) : x.f2 ≤ crashS x k ∧ crashS x k ≤ (x.f1.size : Int) := by
  cases k with
  | none => exact ⟨Int.le_refl _, h1⟩
  | some v =>
    simp only [crashS]
    unfold mn mx
    split <;> split <;> omega
/-- The files when so many of them are done. -/
def crashK (l : List S67) (ks : List Int) (k : Nat) : List S67 := (crashF l ks).take k ++ l.drop k
theorem crashK_length (l : List S67) (ks : List Int) (k : Nat) (h : k ≤ l.length) : (crashK l ks k).length = l.length := by
  simp [crashK, crashF_length]; omega
theorem crashK_at {l : List S67} {ks : List Int} {k : Nat} {x : S67} (h : l[k]? = some x) : (crashK l ks k)[k]? = some x := by
  have hlt : k < l.length := (List.getElem?_eq_some_iff.1 h).1
  rw [crashK, List.getElem?_append_right (by simp [crashF_length]; omega)]
  simp [crashF_length]
  rw [show min k l.length = k by omega]
  simpa using h
theorem crashK_succ {l : List S67} {ks : List Int} {k : Nat} {x : S67} (h : l[k]? = some x) : (crashK l ks k).set k (crash1 x ks[k]?) = crashK l ks (k + 1) := by
  have hlt : k < l.length := (List.getElem?_eq_some_iff.1 h).1
  have hlen : ((crashF l ks).take k).length = k := by simp [crashF_length]; omega
  rw [crashK, crashK, List.set_append_right _ _ (by omega), hlen, Nat.sub_self]
  rw [List.drop_eq_getElem_cons hlt, List.set_cons_zero, List.take_succ_eq_append_getElem (by rw [crashF_length]; exact hlt)]
  have h2 := crashF_get (ks := ks) h
  rw [List.getElem?_eq_getElem (by rw [crashF_length]; exact hlt)] at h2
  rw [Option.some.inj h2]
  simp
def disk_Crash.f (l0_0 : List (S67)) (a0_1 : Bool) (a0_2 : Int) (a0_3 : Int) (l1 : List Int) : Option ((List (S67)) × Bool × Int × Int × Int) := some (if rightF l0_0 = true then (crashF l0_0 l1, false, -1, -1, 0) else ([], false, 0, 0, 6))
set_option maxHeartbeats 8000000 in
set_option maxRecDepth 100000 in
theorem disk_Crash.calls (A0_0 : Option Addr) (c0_0 : Nat) (l0_0 : List (S67)) (a0_1 : Bool) (a0_2 : Int) (a0_3 : Int) (A1 : Option Addr) (c1 : Nat) (l1 : List Int) (r1 : List (S67)) (r2 : Bool) (r3 : Int) (r4 : Int) (r5 : Int) (w : World) (hr0_0 : Kd.C k67 w A0_0 l0_0.length l0_0) (hc0_0 : l0_0.length ≤ c0_0) (hr1 : Kd.C (Kd.int .i64) w A1 l1.length l1) (hc1 : l1.length ≤ c1) (h : disk_Crash.f l0_0 a0_1 a0_2 a0_3 l1 = some (r1, r2, r3, r4, r5)) :
    Calls Tryz.prog 23 #[.agg #[.slice A0_0 l0_0.length c0_0, .bool a0_1, .int .i64 a0_2, .int .i64 a0_3], .slice A1 l1.length c1] w fun e w' => ∃ v0_ : Value, e = .returned (.tuple #[.agg #[v0_, .bool r2, .int .i64 r3, .int .i64 r4], .int .i64 r5]) ∧ Kd.R k67 67 w' w.heap.size (fun _ => True) v0_ r1 ∧ Below w.heap.size w w' := by
  unfold disk_Crash.f at h
  have HE := Aside0.mk (Option.some.inj h)
  clear h
  have HR := Aside0.mk hr0_0
  have HC := Aside0.mk hc0_0
  have HK1 := Aside0.mk hr1
  have hl1 : l1.length ≤ 9223372036854775807 := hr1.2.1
  clear hr0_0 hc0_0 hr1 hc1
  have HB := Aside0.mk (Below.refl w.heap.size w)
  go_enter Tryz.func23, Tryz.ntmps23
  go_wp2_with (first
    | ((with_reducible refine gate_dst (N := 2) rfl ?_);
        refine box_event ?hg (N := 2) ?hd (cs := #[.slice A0_0 l0_0.length c0_0, .bool a0_1, .int .i64 a0_2, .int .i64 a0_3]) (t := 27) ?hr ?_;
        (case hd => rfl); (case hg => rfl); (case hr => first | (go_simp; done) | (go_simp; rfl));
        intro gd hg w1 hbox hb;
        have n0_ := Aside0.mk (below_step HB.out hb);
        clear HB; have HB := n0_; have BKD := Aside0.mk hbox; clear n0_ hg hbox hb)
    | ((with_reducible refine gate_dst (N := 4) rfl ?_);
        refine box_event ?hg (N := 4) ?hd (cs := #[.slice none 0 0, .bool false, .int .i64 0, .int .i64 0]) (t := 27) ?hr ?_;
        (case hd => rfl); (case hg => rfl); (case hr => first | (go_simp; done) | (go_simp; rfl));
        intro gr hg w3 hbox hb;
        have n0_ := Aside0.mk (below_step HB.out hb); have n1_ := Aside0.mk (blk_below BKD.out hb);
        have GR := Aside0.mk (show w.heap.size ≤ gr by rw [hg]; exact HB.out.size);
        clear HB BKD; have HB := n0_; have BKD := n1_; have BKR := Aside0.mk hbox; clear n0_ n1_ hg hbox hb;
        have d0 : w3.cell? ⟨gd, 0, none⟩ = some (.slice A0_0 l0_0.length c0_0) := (blk_cell BKD.out 0).trans rfl;
        have d1 : w3.cell? ⟨gd, 1, none⟩ = some (.bool a0_1) := (blk_cell BKD.out 1).trans rfl;
        have d2 : w3.cell? ⟨gd, 2, none⟩ = some (.int .i64 a0_2) := (blk_cell BKD.out 2).trans rfl;
        have d3 : w3.cell? ⟨gd, 3, none⟩ = some (.int .i64 a0_3) := (blk_cell BKD.out 3).trans rfl)
    | fail)
  by_cases hok : rightF l0_0 = true
  · have HE2 : Aside0 ((crashF l0_0 l1, false, (-1 : Int), (-1 : Int), (0 : Int)) = (r1, r2, r3, r4, r5)) := ⟨by have := HE.out; rwa [if_pos hok] at this⟩
    have hle : l0_0.length ≤ 64 := by
      simp only [rightF, Bool.and_eq_true, decide_eq_true_eq] at hok
      exact hok.2
    have HOK := Aside0.mk hok
    refine ((disk_Check.calls A0_0 c0_0 l0_0 a0_1 a0_2 a0_3 0 w3 (Kd.C_below HR.out HB.out) HC.out (by rw [disk_Check.f, if_pos hok])).mono ?_)
    clear hok HE
    rintro e w4 ⟨rfl, hb⟩
    have n0_ := Aside0.mk (below_step HB.out hb); have n1_ := Aside0.mk (blk_below BKD.out hb); have n2_ := Aside0.mk (blk_below BKR.out hb)
    clear HB BKD BKR d0 d1 d2 d3 hb; have HB := n0_; have BKD := n1_; have BKR := n2_; clear n0_ n1_ n2_
    have d0 : w4.cell? ⟨gd, 0, none⟩ = some (.slice A0_0 l0_0.length c0_0) := (blk_cell BKD.out 0).trans rfl
    go_wp2_with fail
    refine ((api_File.calls A0_0 c0_0 l0_0 l0_0 w4 (Kd.C_below HR.out HB.out) HC.out (by rw [api_File.f, if_pos (by omega)])).mono ?_)
    rintro e w5 ⟨v, rfl, ho, hb⟩
    have n0_ := Aside0.mk (below_step HB.out hb); have n2_ := Aside0.mk (blk_below BKR.out hb); have HO := Aside0.mk (Kd.R_lower ho HB.out.size)
    obtain ⟨A, c, e⟩ := Kd.R_slice ho
    subst e
    clear HB BKD BKR d0 hb ho; have HB := n0_; have BKR := n2_; clear n0_ n2_
    go_wp2_with (first
      | ((with_reducible refine gate_dst (N := 7) rfl ?_);
          refine box_event ?hg (N := 7) ?hd (cs := #[.slice none 0 0, .bool false, .int .i64 0, .int .i64 0]) (t := 27) ?hr ?_;
          (case hd => rfl); (case hg => rfl); (case hr => first | (go_simp; done) | (go_simp; rfl));
          intro go hg w6 hbox hb;
          have n0_ := Aside0.mk (below_step HB.out hb); have n1_ := Aside0.mk (blk_below BKR.out hb); have n2_ := Aside0.mk (Kd.R_below HO.out hb);
          have GO := Aside0.mk (show w.heap.size ≤ go by rw [hg]; exact HB.out.size); have NRO := Aside0.mk (show gr ≠ go by rw [hg]; exact Nat.ne_of_lt (blk_lt BKR.out));
          clear HB BKR HO; have HB := n0_; have BKR := n1_; have HO := n2_; have BKO := Aside0.mk hbox; clear n0_ n1_ n2_ hg hbox hb;
          have o0 : w6.cell? ⟨go, 0, none⟩ = some (.slice none 0 0) := (blk_cell BKO.out 0).trans rfl;
          have o1 : w6.cell? ⟨go, 1, none⟩ = some (.bool false) := (blk_cell BKO.out 1).trans rfl;
          have o2 : w6.cell? ⟨go, 2, none⟩ = some (.int .i64 0) := (blk_cell BKO.out 2).trans rfl;
          have o3 : w6.cell? ⟨go, 3, none⟩ = some (.int .i64 0) := (blk_cell BKO.out 3).trans rfl;
          have of0 := blk_frozen BKO.out 0; have of1 := blk_frozen BKO.out 1; have of2 := blk_frozen BKO.out 2; have of3 := blk_frozen BKO.out 3)
      | fail)
    go_loopw [23] (fun v23 wr => ∃ k : Nat, v23 = .int .i64 (k : Int) ∧ k ≤ l0_0.length ∧ Aside0 (Below w.heap.size w wr) ∧ Aside0 (wr.heap[gr]? = some (.cells #[.slice none 0 0, .bool false, .int .i64 0, .int .i64 0] 27 (0, 0)))
        ∧ Aside0 (wr.heap[go]? = some (.cells #[.slice A l0_0.length c, .bool false, .int .i64 (-1), .int .i64 (-1)] 27 (0, 0))) ∧ Aside0 (Kd.R k67 67 wr w.heap.size (fun _ => True) (.slice A l0_0.length c) (crashK l0_0 l1 k)))
      (fun v23 _ => l0_0.length - (intOf v23).toNat)
    case atStart =>
      refine ⟨0, rfl, by omega, ⟨below4 HB.out GO.out _ _ _ _⟩, ⟨far4 BKR.out NRO.out _ _ _ _⟩, ⟨put4 BKO.out _ _ _ _⟩, ⟨?_⟩⟩
      have e : crashK l0_0 l1 0 = l0_0 := by simp [crashK]
      rw [e]
      exact R4 HO.out BKO.out (by decide) _ _ _ _
    case round =>
      clear HB BKR BKO HO o0 o1 o2 o3 of0 of1 of2 of3
      obtain ⟨k, rfl, hkn, HB, BKR, BKO, HO⟩ := hrel
      by_cases hlt : k < l0_0.length
      · obtain ⟨x, hx⟩ : ∃ x, l0_0[k]? = some x := ⟨_, List.getElem?_eq_getElem hlt⟩
        have hck := crashK_length l0_0 l1 k hkn
        have hxk := crashK_at (ks := l1) hx
        have ⟨e0, e1, e2⟩ := cellsOf_get _ k x hxk
        rw [← hck] at HO
        obtain ⟨g, cur, hA, _, hg, hh, h3, h4, h5, h6⟩ := R_block HO.out (by omega)
        subst hA
        rw [hck] at HO h3
        have s1 : wr.cell? ⟨go, 0, none⟩ = some (.slice (some ⟨g, 0, none⟩) l0_0.length c) := (blk_cell BKO.out 0).trans rfl
        have s3 : wr.cell? ⟨g, k * 3 + 1, none⟩ = some (.string x.f1) := R_cell hh h6 e1
        have s4 : wr.cell? ⟨g, k * 3 + 2, none⟩ = some (.int .i64 x.f2) := R_cell hh h6 e2
        have s5 := blk_frozen hh (k * 3 + 2)
        have s6 := blk_frozen hh (k * 3 + 1)
        have NGO := Aside0.mk (show g ≠ go from other_block hh BKO.out (by decide))
        have NGR := Aside0.mk (show g ≠ gr from other_block hh BKR.out (by decide))
        have HG := Aside0.mk hg
        have HH := Aside0.mk hh
        have HX := Aside0.mk hx
        have HXK := Aside0.mk hxk
        have hr2 := right_get HOK.out hx
        have hi0 : (0 : Int) ≤ (k : Int) := by omega
        have hi1 : (k : Int) < (l0_0.length : Int) := by omega
        clear hh hg h4 h5 h6 e0 e1 e2 hx hxk hck
        by_cases hk2 : k < l1.length
        · obtain ⟨ad, e, hkc⟩ := Kd.at_int HK1.out (k : Int) (by omega) (by omega)
          subst e
          have hkb := World.block_lt_of_cell? w _ hkc
          have hne : ad.block ≠ g := fun e => by rw [add_block] at hkb; have := HG.out; omega
          have hkc' := (HB.out.cell hkb).trans hkc
          clear hkc hkb
          have hi2 : (k : Int) < (l1.length : Int) := by omega
          simp only [Int.toNat_natCast] at hkc'
          have hS := crashS_range hr2.2.2.1 hr2.2.2.2 (some (rd l1 (k : Int)))
          simp only [crashS] at hS
          have hm1 : 0 ≤ mn (mx (rd l1 (k : Int)) 0) ((x.f1.size : Int) - x.f2) := by omega
          have hm2 : mn (mx (rd l1 (k : Int)) 0) ((x.f1.size : Int) - x.f2) ≤ (x.f1.size : Int) - x.f2 := by omega
          go_wp2
          go_region
          go_wp2
          go_region
          go_wp2
          have el : l1[k]? = some (rd l1 (k : Int)) := rd_at hk2
          obtain ⟨q, hq⟩ : ∃ q, q = crashS x (some (rd l1 (k : Int))) := ⟨_, rfl⟩
          have e : crashK l0_0 l1 (k + 1) = (((crashK l0_0 l1 k).set k ⟨x.f0, x.f1, q⟩).set k ⟨x.f0, x.f1.extract 0 q.toNat, q⟩) := by
            rw [← crashK_succ (ks := l1) HX.out, el, List.set_set, crash1, ← hq]
          rw [show x.f2 + mn (mx (rd l1 (k : Int)) 0) ((x.f1.size : Int) - x.f2) = q from hq.symm]
          refine ⟨⟨k + 1, by congr 1, by omega, ⟨below_drew (below_set (below_drew (below_set HB.out HG.out)) HG.out)⟩,
            ⟨blk_drew (blk_far (p := ⟨g, k * 3 + 1, none⟩) (blk_drew (blk_far (p := ⟨g, k * 3 + 2, none⟩) BKR.out (fun e => NGR.out e.symm) _)) (fun e => NGR.out e.symm) _)⟩,
            ⟨blk_drew (blk_far (p := ⟨g, k * 3 + 1, none⟩) (blk_drew (blk_far (p := ⟨g, k * 3 + 2, none⟩) BKO.out (fun e => NGO.out e.symm) _)) (fun e => NGO.out e.symm) _)⟩, ⟨?_⟩⟩, by simp [intOf]; omega⟩
          have ho := HO.out
          rw [← crashK_length l0_0 l1 k hkn] at ho
          have h := R_put (u := .int .i64 q) ho (l' := (crashK l0_0 l1 k).set k ⟨x.f0, x.f1, q⟩) (by rw [List.length_set]) (cellsOf_set2 _ k x _ HXK.out) (j := k * 3 + 2) (by rw [crashK_length l0_0 l1 k hkn]; omega)
          have h := R_put (u := .string (x.f1.extract 0 q.toNat)) h (l' := ((crashK l0_0 l1 k).set k ⟨x.f0, x.f1, q⟩).set k ⟨x.f0, x.f1.extract 0 q.toNat, q⟩) (by rw [List.length_set]) (cellsOf_set1 _ k ⟨x.f0, x.f1, q⟩ _ (by rw [List.getElem?_set_self (by rw [crashK_length l0_0 l1 k hkn]; omega)])) (j := k * 3 + 1) (by rw [List.length_set, crashK_length l0_0 l1 k hkn]; omega)
          rw [List.length_set, List.length_set, crashK_length l0_0 l1 k hkn, ← e] at h
          exact h
        · go_wp2
          go_region
          go_wp2
          have e : crashK l0_0 l1 (k + 1) = ((crashK l0_0 l1 k).set k ⟨x.f0, x.f1.extract 0 x.f2.toNat, x.f2⟩) := by
            rw [← crashK_succ (ks := l1) HX.out, List.getElem?_eq_none (by omega)]
            rfl
          refine ⟨⟨k + 1, by congr 1, by omega, ⟨below_drew (below_set HB.out HG.out)⟩, ⟨blk_drew (blk_far (p := ⟨g, k * 3 + 1, none⟩) BKR.out (fun e => NGR.out e.symm) _)⟩, ⟨blk_drew (blk_far (p := ⟨g, k * 3 + 1, none⟩) BKO.out (fun e => NGO.out e.symm) _)⟩, ⟨?_⟩⟩, by simp [intOf]; omega⟩
          have ho := HO.out
          rw [← crashK_length l0_0 l1 k hkn] at ho
          have h := R_put (u := .string (x.f1.extract 0 x.f2.toNat)) ho (l' := (crashK l0_0 l1 k).set k ⟨x.f0, x.f1.extract 0 x.f2.toNat, x.f2⟩) (by rw [List.length_set]) (cellsOf_set1 _ k x _ HXK.out) (j := k * 3 + 1) (by rw [crashK_length l0_0 l1 k hkn]; omega)
          rw [List.length_set, crashK_length l0_0 l1 k hkn, ← e] at h
          exact h
      · obtain rfl : k = l0_0.length := by omega
        have o0 : wr.cell? ⟨go, 0, none⟩ = some (.slice A l0_0.length c) := (blk_cell BKO.out 0).trans rfl
        have o1 : wr.cell? ⟨go, 1, none⟩ = some (.bool false) := (blk_cell BKO.out 1).trans rfl
        have o2 : wr.cell? ⟨go, 2, none⟩ = some (.int .i64 (-1)) := (blk_cell BKO.out 2).trans rfl
        have o3 : wr.cell? ⟨go, 3, none⟩ = some (.int .i64 (-1)) := (blk_cell BKO.out 3).trans rfl
        have b0 : wr.cell? ⟨gr, 0, none⟩ = some (.slice none 0 0) := (blk_cell BKR.out 0).trans rfl
        have b1 : wr.cell? ⟨gr, 1, none⟩ = some (.bool false) := (blk_cell BKR.out 1).trans rfl
        have b2 : wr.cell? ⟨gr, 2, none⟩ = some (.int .i64 0) := (blk_cell BKR.out 2).trans rfl
        have b3 : wr.cell? ⟨gr, 3, none⟩ = some (.int .i64 0) := (blk_cell BKR.out 3).trans rfl
        have bf0 := blk_frozen BKR.out 0
        have bf1 := blk_frozen BKR.out 1
        have bf2 := blk_frozen BKR.out 2
        have bf3 := blk_frozen BKR.out 3
        go_wp2_with fail
        refine bodyPost_ret (results_ct rfl _ _ gr 27 #[.slice A l0_0.length c, .bool false, .int .i64 (-1), .int .i64 (-1)] (0, 0) _ rfl (put4 BKR.out _ _ _ _) Tryz.underlying27 rfl (by kernel_rfl)) rfl ?_
        have e := HE2.out
        simp only [Prod.mk.injEq] at e
        obtain ⟨rfl, rfl, rfl, rfl, rfl⟩ := e
        have e : crashK l0_0 l1 l0_0.length = crashF l0_0 l1 := by
          rw [crashK, List.take_of_length_le (by rw [crashF_length]; omega), List.drop_length, List.append_nil]
        rw [← e]
        exact ⟨_, rfl, R4 HO.out BKR.out (by decide) _ _ _ _, below4 HB.out GR.out _ _ _ _⟩
  · refine ((disk_Check.calls A0_0 c0_0 l0_0 a0_1 a0_2 a0_3 6 w3 (Kd.C_below HR.out HB.out) HC.out (by rw [disk_Check.f, if_neg hok])).mono ?_)
    have HE2 : Aside0 ((([] : List S67), false, (0 : Int), (0 : Int), (6 : Int)) = (r1, r2, r3, r4, r5)) := ⟨by have := HE.out; rwa [if_neg hok] at this⟩
    clear hok HE
    rintro e w4 ⟨rfl, hb⟩
    have n0_ := Aside0.mk (below_step HB.out hb); have n2_ := Aside0.mk (blk_below BKR.out hb)
    clear HB BKD BKR d0 d1 d2 d3 hb; have HB := n0_; have BKR := n2_; clear n0_ n2_
    have b0 : w4.cell? ⟨gr, 0, none⟩ = some (.slice none 0 0) := (blk_cell BKR.out 0).trans rfl
    have b1 : w4.cell? ⟨gr, 1, none⟩ = some (.bool false) := (blk_cell BKR.out 1).trans rfl
    have b2 : w4.cell? ⟨gr, 2, none⟩ = some (.int .i64 0) := (blk_cell BKR.out 2).trans rfl
    have b3 : w4.cell? ⟨gr, 3, none⟩ = some (.int .i64 0) := (blk_cell BKR.out 3).trans rfl
    have bf0 := blk_frozen BKR.out 0
    have bf1 := blk_frozen BKR.out 1
    have bf2 := blk_frozen BKR.out 2
    have bf3 := blk_frozen BKR.out 3
    go_wp2_with fail
    refine bodyPost_ret (results_ct rfl _ _ gr 27 #[.slice none 0 0, .bool false, .int .i64 0, .int .i64 0] (0, 0) _ rfl (put4 BKR.out _ _ _ _) Tryz.underlying27 rfl (by kernel_rfl)) rfl ?_
    have e := HE2.out
    simp only [Prod.mk.injEq] at e
    obtain ⟨rfl, rfl, rfl, rfl, rfl⟩ := e
    exact ⟨_, rfl, Kd.R_nil _ _ _ _ _, below4 HB.out GR.out _ _ _ _⟩
end Go.Proofs.YtanonhipicoigaaGreatDoor.U
namespace Go.Proofs.YtanonhipicoigaaGreatDoor.U
open Go.RowKit Go.Proofs.YtanonhipicoigaaGreatDoorW.PrintWords Go.Proofs.YtanonhipicoigaaGreatDoorW.PrintLast Go.Proofs.YtanonhipicoigaaGreatDoorW.PrintMore
set_option linter.unusedVariables false
set_option linter.unusedSimpArgs false
/-! ### The plain law of right files -/
abbrev BL (a b : List UInt8) : Prop := Op.bytesLess a b = true
def names (l : List S67) : List (List UInt8) := l.map fun x => x.f0.toList
def OkOne (x : S67) : Prop := x.f0.size ≤ 4096 ∧ x.f1.size ≤ 262144 ∧ 0 ≤ x.f2 ∧ x.f2 ≤ (x.f1.size : Int)
theorem bl_ne {a b : List UInt8} (h : BL a b) : a ≠ b := by
  rintro rfl
  rw [BL, bl_irrefl] at h
  cases h
theorem okFiles_iff : ∀ (l : List S67) (last : List UInt8), okFiles last l = true ↔ (last :: names l).Pairwise BL ∧ ∀ x ∈ l, OkOne x
  | [], last => by simp [okFiles, names]
  | x :: l, last => by
    have ih := okFiles_iff l x.f0.toList
    simp only [okFiles, Bool.and_eq_true, ih, okFile, decide_eq_true_eq]
    constructor
    · rintro ⟨⟨⟨⟨⟨h1, h2⟩, h3⟩, h4⟩, h5⟩, h6, h7⟩
      refine ⟨?_, ?_⟩
      · refine List.pairwise_cons.2 ⟨?_, h6⟩
        intro a ha
        rcases List.mem_cons.1 ha with rfl | ha
        · exact h1
        · exact bl_trans _ _ _ h1 ((List.pairwise_cons.1 h6).1 a ha)
      · intro y hy
        rcases List.mem_cons.1 hy with rfl | hy
        · exact ⟨h2, h3, h4, h5⟩
        · exact h7 y hy
    · rintro ⟨h1, h2⟩
      have h3 := List.pairwise_cons.1 h1
      obtain ⟨a, b, c, d⟩ := h2 x (List.mem_cons_self ..)
      exact ⟨⟨⟨⟨⟨h3.1 _ (List.mem_cons_self ..), a⟩, b⟩, c⟩, d⟩, h3.2, fun y hy => h2 y (List.mem_cons_of_mem _ hy)⟩
theorem right_iff (l : List S67) : rightF l = true ↔ (([] : List UInt8) :: names l).Pairwise BL ∧ (∀ x ∈ l, OkOne x) ∧ l.length ≤ 64 := by
  simp only [rightF, Bool.and_eq_true, okFiles_iff, decide_eq_true_eq, and_assoc]
theorem right_len {l : List S67} (h : rightF l = true) : l.length ≤ 64 := ((right_iff l).1 h).2.2
theorem right_names {l : List S67} (h : rightF l = true) : (names l).Pairwise BL := (List.pairwise_cons.1 ((right_iff l).1 h).1).2
theorem right_lt {l : List S67} (h : rightF l = true) {i j : Nat} {x y : S67} (hij : i < j) (hx : l[i]? = some x) (hy : l[j]? = some y) : BL x.f0.toList y.f0.toList := by
  have hp := right_names h
  rw [List.pairwise_iff_getElem] at hp
  have hi : i < l.length := (List.getElem?_eq_some_iff.1 hx).1
  have hj : j < l.length := (List.getElem?_eq_some_iff.1 hy).1
  have := hp i j (by simpa [names] using hi) (by simpa [names] using hj) hij
  simp only [names, List.getElem_map] at this
  rw [(List.getElem?_eq_some_iff.1 hx).2, (List.getElem?_eq_some_iff.1 hy).2] at this
  exact this
theorem right_same {l : List S67} (h : rightF l = true) {i j : Nat} {x y : S67} (hx : l[i]? = some x) (hy : l[j]? = some y) (e : x.f0.toList = y.f0.toList) : i = j := by
  rcases Nat.lt_trichotomy i j with g | g | g
  · exact absurd e (bl_ne (right_lt h g hx hy))
  · exact g
  · exact absurd e.symm (bl_ne (right_lt h g hy hx))
/-! ### Where a name is -/
theorem cmpS_neg (x y : ByteArray) : cmpS x y < 0 ↔ BL x.toList y.toList := by
  unfold cmpS BL
  split
  · simp [*, bl_irrefl]
  · split <;> simp [*, bl_irrefl]
theorem cmpS_zero (x y : ByteArray) : cmpS x y = 0 ↔ x.toList = y.toList := by
  unfold cmpS
  split
  · rename_i h
    constructor
    · intro e; omega
    · intro e; exact absurd e (bl_ne h)
  · split <;> simp [*]
theorem bsGo_spec {l : List S67} (h : rightF l = true) (s : ByteArray) : ∀ (f i j : Nat), i ≤ j → j ≤ l.length → j ≤ i + f →
    (∀ k x, k < i → l[k]? = some x → BL x.f0.toList s.toList) → (∀ k x, j ≤ k → l[k]? = some x → ¬ BL x.f0.toList s.toList) →
    (∀ k x, k < bsGo l s f i j → l[k]? = some x → BL x.f0.toList s.toList) ∧ (∀ k x, bsGo l s f i j ≤ k → l[k]? = some x → ¬ BL x.f0.toList s.toList)
  | 0, i, j, hij, hj, hf, h1, h2 => by
    have : i = j := by omega
    subst this
    exact ⟨h1, h2⟩
  | f + 1, i, j, hij, hj, hf, h1, h2 => by
    unfold bsGo
    split
    · rename_i hlt
      have hm : (i + j) / 2 < l.length := by omega
      have hx : l[(i + j) / 2]? = some (rd_T67 l (((i + j) / 2 : Nat) : Int)) := by
        simp only [rd_T67, Int.toNat_natCast, List.getD_eq_getElem?_getD, List.getElem?_eq_getElem hm]
        rfl
      split
      · rename_i hc
        rw [cmpS_neg] at hc
        refine bsGo_spec h s f _ _ (by omega) hj (by omega) ?_ h2
        intro k x hk hkx
        rcases Nat.lt_or_ge k ((i + j) / 2) with g | g
        · exact bl_trans _ _ _ (right_lt h g hkx hx) hc
        · have : k = (i + j) / 2 := by omega
          subst this
          rw [hx] at hkx
          injection hkx with e
          subst e
          exact hc
      · rename_i hc
        rw [cmpS_neg] at hc
        refine bsGo_spec h s f _ _ (by omega) (by omega) (by omega) h1 ?_
        intro k x hk hkx hb
        rcases Nat.lt_or_ge ((i + j) / 2) k with g | g
        · exact hc (bl_trans _ _ _ (right_lt h g hx hkx) hb)
        · have : k = (i + j) / 2 := by omega
          subst this
          rw [hx] at hkx
          injection hkx with e
          subst e
          exact hc hb
    · have : i = j := by omega
      subst this
      exact ⟨h1, h2⟩
theorem bs_lo {l : List S67} (h : rightF l = true) (s : ByteArray) {k : Nat} {x : S67} (hk : k < bsOf l s) (hx : l[k]? = some x) : BL x.f0.toList s.toList :=
  (bsGo_spec h s l.length 0 l.length (by omega) (by omega) (by omega) (fun k x hk => by omega) (fun k x hk hx => by have := (List.getElem?_eq_some_iff.1 hx).1; omega)).1 k x hk hx
theorem bs_hi {l : List S67} (h : rightF l = true) (s : ByteArray) {k : Nat} {x : S67} (hk : bsOf l s ≤ k) (hx : l[k]? = some x) : ¬ BL x.f0.toList s.toList :=
  (bsGo_spec h s l.length 0 l.length (by omega) (by omega) (by omega) (fun k x hk => by omega) (fun k x hk hx => by have := (List.getElem?_eq_some_iff.1 hx).1; omega)).2 k x hk hx
theorem bsOf_le (l : List S67) (s : ByteArray) : bsOf l s ≤ l.length := (bsGo_le l s _ 0 l.length (Nat.zero_le _)).2
theorem isAt_iff (l : List S67) (s : ByteArray) (i : Nat) : isAt l s i = true ↔ ∃ x, l[i]? = some x ∧ x.f0.toList = s.toList := by
  simp only [isAt, Bool.and_eq_true, decide_eq_true_eq, beq_iff_eq, cmpS_zero]
  constructor
  · rintro ⟨hi, e⟩
    refine ⟨l[i], List.getElem?_eq_getElem hi, ?_⟩
    rwa [rd_get (List.getElem?_eq_getElem hi)] at e
  · rintro ⟨x, hx, e⟩
    exact ⟨(List.getElem?_eq_some_iff.1 hx).1, by rw [rd_get hx]; exact e⟩
theorem bs_found {l : List S67} (h : rightF l = true) (s : ByteArray) {x : S67} (hx : x ∈ l) (e : x.f0.toList = s.toList) : l[bsOf l s]? = some x := by
  obtain ⟨k, hk⟩ := List.getElem?_of_mem hx
  rcases Nat.lt_trichotomy k (bsOf l s) with g | g | g
  · exact absurd e (bl_ne (bs_lo h s g hk))
  · rw [← g]; exact hk
  · have hlt : bsOf l s < l.length := by have := (List.getElem?_eq_some_iff.1 hk).1; omega
    have hy := List.getElem?_eq_getElem hlt
    have := right_lt h g hy hk
    rw [e] at this
    exact absurd this (bs_hi h s (Nat.le_refl _) hy)
/-- The file of a name. -/
def getF (l : List S67) (s : ByteArray) : Option S67 := if isAt l s (bsOf l s) = true then l[bsOf l s]? else none
theorem getF_iff {l : List S67} (h : rightF l = true) (s : ByteArray) (x : S67) : getF l s = some x ↔ x ∈ l ∧ x.f0.toList = s.toList := by
  unfold getF
  constructor
  · intro g
    split at g
    · rename_i hi
      obtain ⟨y, hy, e⟩ := (isAt_iff _ _ _).1 hi
      rw [hy] at g
      injection g with g
      subst g
      exact ⟨List.mem_of_getElem? hy, e⟩
    · cases g
  · rintro ⟨hx, e⟩
    have := bs_found h s hx e
    rw [if_pos ((isAt_iff _ _ _).2 ⟨x, this, e⟩)]
    exact this
/-- What is read. -/
def readF (l : List S67) (dn : Bool) (s : ByteArray) : ByteArray × Int :=
  if rightF l = true then (if dn = true then ((⟨#[]⟩ : ByteArray), 17) else match getF l s with | some x => (x.f1, 0) | none => ((⟨#[]⟩ : ByteArray), 7)) else ((⟨#[]⟩ : ByteArray), 6)
/-! ### A right disk behind a change -/
theorem names_set {l : List S67} {i : Nat} {x y : S67} (hx : l[i]? = some x) (e : y.f0 = x.f0) : names (l.set i y) = names l := by
  unfold names
  rw [List.map_set]
  apply List.ext_getElem?
  intro j
  rw [List.getElem?_set]
  split
  · rename_i hj
    subst hj
    have hi := (List.getElem?_eq_some_iff.1 hx).1
    rw [if_pos (by simpa using hi)]
    simp [List.getElem?_map, hx, e]
  · rfl
theorem right_set {l : List S67} (h : rightF l = true) {i : Nat} {x y : S67} (hx : l[i]? = some x) (e : y.f0 = x.f0) (hy : OkOne y) : rightF (l.set i y) = true := by
  have h' := (right_iff l).1 h
  refine (right_iff _).2 ⟨by rw [names_set hx e]; exact h'.1, fun z hz => ?_, by rw [List.length_set]; exact h'.2.2⟩
  rcases List.mem_or_eq_of_mem_set hz with hz | rfl
  · exact h'.2.1 z hz
  · exact hy
theorem mem_set {l : List S67} (h : rightF l = true) {i : Nat} {x y z : S67} (hx : l[i]? = some x) (e : y.f0 = x.f0) (hz : z.f0.toList ≠ x.f0.toList) : z ∈ l.set i y ↔ z ∈ l := by
  constructor
  · intro g
    rcases List.mem_or_eq_of_mem_set g with g | rfl
    · exact g
    · exact absurd (by rw [e]) hz
  · intro g
    obtain ⟨k, hk⟩ := List.getElem?_of_mem g
    have : i ≠ k := by
      rintro rfl
      rw [hx] at hk
      injection hk with hk
      exact hz (by rw [hk])
    exact List.mem_of_getElem? (i := k) (by rw [List.getElem?_set_ne this]; exact hk)
theorem mem_set_self {l : List S67} {i : Nat} {x y : S67} (hx : l[i]? = some x) : y ∈ l.set i y :=
  List.mem_of_getElem? (i := i) (by rw [List.getElem?_set_self (List.getElem?_eq_some_iff.1 hx).1])
theorem right_cut {l : List S67} (h : rightF l = true) (i : Nat) : rightF (l.take i ++ l.drop (i + 1)) = true := by
  have h' := (right_iff l).1 h
  have hs : (l.take i ++ l.drop (i + 1)).Sublist l := by
    conv => rhs; rw [← List.take_append_drop i l]
    exact List.Sublist.append (List.Sublist.refl _) (by rw [← List.drop_drop]; exact List.drop_sublist _ _)
  refine (right_iff _).2 ⟨h'.1.sublist ((hs.map _).cons_cons _), fun z hz => h'.2.1 z (hs.subset hz), Nat.le_trans hs.length_le h'.2.2⟩
theorem mem_new {l : List S67} (i : Nat) (y z : S67) : z ∈ l.take i ++ [y] ++ l.drop i ↔ z = y ∨ z ∈ l := by
  conv => rhs; rw [← List.take_append_drop i l]
  simp only [List.mem_append, List.mem_singleton]
  constructor
  · rintro ((h | h) | h)
    · exact .inr (.inl h)
    · exact .inl h
    · exact .inr (.inr h)
  · rintro (h | h | h)
    · exact .inl (.inr h)
    · exact .inl (.inl h)
    · exact .inr h
theorem right_new {l : List S67} (h : rightF l = true) {s : ByteArray} {y : S67} (hi : isAt l s (bsOf l s) = false) (hy : OkOne y) (hn : y.f0 = s) (hne : s.toList ≠ []) (hlen : l.length < 64) : rightF (l.take (bsOf l s) ++ [y] ++ l.drop (bsOf l s)) = true := by
  have h' := (right_iff l).1 h
  have hp := List.pairwise_cons.1 h'.1
  refine (right_iff _).2 ⟨List.pairwise_cons.2 ⟨?_, ?_⟩, ?_, ?_⟩
  · intro a ha
    simp only [names, List.map_append, List.mem_append, List.map_cons, List.map_nil, List.mem_singleton] at ha
    rcases ha with (ha | rfl) | ha
    · rw [List.map_take] at ha
      exact hp.1 a (List.mem_of_mem_take ha)
    · rw [hn]
      rcases bl_total [] s.toList with g | g | g
      · exact g
      · exact absurd g.symm hne
      · revert g; cases s.toList <;> simp [Op.bytesLess]
    · rw [List.map_drop] at ha
      exact hp.1 a (List.mem_of_mem_drop ha)
  · simp only [names, List.map_append, List.map_cons, List.map_nil]
    rw [List.append_assoc, List.pairwise_append, List.pairwise_append, List.map_take, List.map_drop]
    have hlo : ∀ a ∈ (names l).take (bsOf l s), BL a s.toList := by
      intro a ha
      obtain ⟨k, hk⟩ := List.getElem?_of_mem ha
      have hki : k < bsOf l s := by
        have := (List.getElem?_eq_some_iff.1 hk).1
        simp only [List.length_take] at this
        omega
      rw [List.getElem?_take_of_lt hki, names, List.getElem?_map] at hk
      cases e : l[k]? with
      | none => rw [e] at hk; cases hk
      | some x =>
        rw [e] at hk
        injection hk with hk
        subst hk
        exact bs_lo h s hki e
    have hhi : ∀ a ∈ (names l).drop (bsOf l s), BL s.toList a := by
      intro a ha
      obtain ⟨k, hk⟩ := List.getElem?_of_mem ha
      rw [List.getElem?_drop, names, List.getElem?_map] at hk
      cases e : l[bsOf l s + k]? with
      | none => rw [e] at hk; cases hk
      | some x =>
        rw [e] at hk
        injection hk with hk
        subst hk
        rcases bl_total s.toList x.f0.toList with g | g | g
        · exact g
        · have hb := bs_found h s (List.mem_of_getElem? e) g.symm
          rw [(isAt_iff _ _ _).2 ⟨x, hb, g.symm⟩] at hi
          cases hi
        · exact absurd g (bs_hi h s (by omega) e)
    refine ⟨hp.2.sublist (List.take_sublist _ _), ⟨List.pairwise_singleton _ _, hp.2.sublist (List.drop_sublist _ _), ?_⟩, ?_⟩
    · intro a ha b hb
      rw [List.mem_singleton.1 ha, hn]
      exact hhi b hb
    · intro a ha b hb
      rcases List.mem_append.1 hb with hb | hb
      · rw [List.mem_singleton.1 hb, hn]
        exact hlo a ha
      · exact bl_trans _ _ _ (hlo a ha) (hhi b hb)
  · intro z hz
    rcases (mem_new _ _ _).1 hz with rfl | hz
    · exact hy
    · exact h'.2.1 z hz
  · simp only [List.length_append, List.length_take, List.length_drop, List.length_singleton]
    have := bsOf_le l s
    omega
end Go.Proofs.YtanonhipicoigaaGreatDoor.U
namespace Go.Proofs.YtanonhipicoigaaGreatDoor.U
open Go.RowKit Go.Proofs.YtanonhipicoigaaGreatDoorW.PrintWords Go.Proofs.YtanonhipicoigaaGreatDoorW.PrintLast Go.Proofs.YtanonhipicoigaaGreatDoorW.PrintMore
attribute [local go_sem] max2_int min2_int max_two min_two max_three min_three max_four min_four   -- for this text's walks alone
set_option linter.unusedVariables false
set_option linter.unusedSimpArgs false
/-! ### disk_asked: function 113 -/
def disk_asked.f (l0_0 : List (S67)) (a0_1 : Bool) (a0_2 : Int) (a0_3 : Int) : Option (Int) := (disk_Check.f l0_0 a0_1 a0_2 a0_3).bind fun t157 => (if t157 = 0 then (if a0_1 = true then (some 17) else (some t157)) else (some t157))
set_option maxHeartbeats 8000000 in
set_option maxRecDepth 100000 in
theorem disk_asked.calls (A0_0 : Option Addr) (c0_0 : Nat) (l0_0 : List (S67)) (a0_1 : Bool) (a0_2 : Int) (a0_3 : Int) (r : Int) (w : World) (hr0_0 : Kd.C k67 w A0_0 l0_0.length l0_0) (hc0_0 : l0_0.length ≤ c0_0) (h : disk_asked.f l0_0 a0_1 a0_2 a0_3 = some r) :
    Calls Tryz.prog 113 #[.agg #[.slice A0_0 l0_0.length c0_0, .bool a0_1, .int .i64 a0_2, .int .i64 a0_3]] w fun e w' => e = .returned (.int .i64 r) ∧ Below w.heap.size w w' := by
  have hu27 := Tryz.underlying27
  have HR0_0 := Aside0.mk hr0_0
  have HC0_0 := Aside0.mk hc0_0
  clear hr0_0 hc0_0
  have HB := Aside0.mk (Below.refl w.heap.size w)
  have H : ((disk_Check.f l0_0 a0_1 a0_2 a0_3).bind fun t157 => (if t157 = 0 then (if a0_1 = true then (some 17) else (some t157)) else (some t157))) = some r := h
  clear h
  replace H := Option.bind_eq_some_iff.mp H
  obtain ⟨t157, A20, H⟩ := H
  replace H : (if t157 = 0 then (if a0_1 = true then (some 17) else (some t157)) else (some t157)) = some r := H
  have A2 := Aside0.mk A20
  clear A20
  by_cases c3 : t157 = 0
  · rw [if_pos c3] at H
    have c3b0 : (t157 == 0) = true := beq_iff_eq.mpr c3
    have c3b1 : (t157 != 0) = false := bne_eq_false_iff_eq.mpr c3
    clear c3
    by_cases c4 : a0_1 = true
    · subst c4
      have H1 : (some 17) = some r := by rw [if_pos rfl] at H; exact H
      clear H
      have H := H1
      clear H1
      obtain rfl := Option.some.inj H
      go_enter Tryz.func113, Tryz.ntmps113
      go_wp2_with (first | ((with_reducible refine gate_dst (N := 1) rfl ?_); refine box_event ?hg (N := 1) ?hd (cs := #[.slice A0_0 l0_0.length c0_0, .bool true, .int .i64 a0_2, .int .i64 a0_3]) (t := 27) ?hr ?_; (case hd => rfl); (case hg => rfl); (case hr => first | (go_simp; done) | (go_simp; rfl)); intro gb156 hg w5 hbox hb; have n0_ := Aside0.mk (below_step (by repeat (first | (with_reducible first | exact HB.out | apply below_alloc | apply pw_below_drewN | apply below_drew1) | exact HB.out)) hb); have n1_ := Aside0.mk (hbox); have n2_ := Aside0.mk ((by rw [hg]; exact (below_size (by repeat (first | (with_reducible first | exact HB.out | apply below_alloc | apply pw_below_drewN | apply below_drew1) | exact HB.out))) : w.heap.size ≤ gb156)); have n3_ := Aside0.mk ((by rw [hg]; exact (below_size (by repeat (first | (with_reducible first | exact HB.out | apply below_alloc | apply pw_below_drewN | apply below_drew1) | exact HB.out))) : w.heap.size ≤ gb156)); clear HB; have HB := n0_; have BK156 := n1_; have GW156 := n2_; have GE156 := n3_; clear n0_ n1_ n2_ n3_; clear hb hbox hg; have hcz6_0 : w5.cell? ⟨gb156, 0, none⟩ = some (.slice A0_0 l0_0.length c0_0) := (blk_cell BK156.out 0).trans rfl; have hcz6_1 : w5.cell? ⟨gb156, 1, none⟩ = some (.bool true) := (blk_cell BK156.out 1).trans rfl; have hcz6_2 : w5.cell? ⟨gb156, 2, none⟩ = some (.int .i64 a0_2) := (blk_cell BK156.out 2).trans rfl; have hcz6_3 : w5.cell? ⟨gb156, 3, none⟩ = some (.int .i64 a0_3) := (blk_cell BK156.out 3).trans rfl; have hfz6_0 := blk_frozen BK156.out 0; have hfz6_1 := blk_frozen BK156.out 1; have hfz6_2 := blk_frozen BK156.out 2; have hfz6_3 := blk_frozen BK156.out 3) | ((with_reducible refine gate_callee (f := 50) rfl ?_); refine goesL_ (some 5) rfl rfl Tryz.func50 (by kernel_rfl) rfl #[.agg #[.slice A0_0 l0_0.length c0_0, .bool true, .int .i64 a0_2, .int .i64 a0_3]] rfl (by (try simp only [List.map_toArray, List.map_cons, List.map_nil]); first | done | rfl | (simp only [List.length_drop, List.length_take]; rfl)) ?_; (with_reducible refine (disk_Check.calls _ _ l0_0 true a0_2 a0_3 t157 _ ?side1 ?side2 A2.out).mono ?_); (case side1 => repeat (first | exact (Kd.C_below HR0_0.out HB.out) | (with_reducible refine Kd.C_alloc ?_ _) | (with_reducible refine Kd.C_drewN ?_ _) | (with_reducible refine Kd.C_drew ?_))); (case side2 => exact HC0_0.out); rintro e w7 ⟨rfl, hb⟩; refine ⟨_, rfl, ?_⟩; have n0_ := Aside0.mk (blk_below (g := gb156) (o := .cells #[.slice A0_0 l0_0.length c0_0, .bool true, .int .i64 a0_2, .int .i64 a0_3] 27 (0, 0)) (by (with_reducible repeat (first | refine blk_drewN ?_ _ | refine blk_drew ?_ | refine blk_alloc ?_ _)); exact BK156.out) hb); have n1_ := Aside0.mk (below_step (by repeat (first | (with_reducible first | exact HB.out | apply below_alloc | apply pw_below_drewN | apply below_drew1 | refine below_set ?_ GE156.out) | exact HB.out)) hb); clear BK156; clear HB; have BK156 := n0_; have HB := n1_; clear n0_ n1_; (try clear hb); (try clear hb2); (try clear hk); (try clear hi); have hcz8_0 : w7.cell? ⟨gb156, 0, none⟩ = some (.slice A0_0 l0_0.length c0_0) := (blk_cell BK156.out 0).trans rfl; have hcz8_1 : w7.cell? ⟨gb156, 1, none⟩ = some (.bool true) := (blk_cell BK156.out 1).trans rfl; have hcz8_2 : w7.cell? ⟨gb156, 2, none⟩ = some (.int .i64 a0_2) := (blk_cell BK156.out 2).trans rfl; have hcz8_3 : w7.cell? ⟨gb156, 3, none⟩ = some (.int .i64 a0_3) := (blk_cell BK156.out 3).trans rfl; have hfz8_0 := blk_frozen BK156.out 0; have hfz8_1 := blk_frozen BK156.out 1; have hfz8_2 := blk_frozen BK156.out 2; have hfz8_3 := blk_frozen BK156.out 3))
      go_ret
      exact ⟨by first | rfl | (simp [errW_none, errW_some] <;> rfl) | (simp [*, errW_none, errW_some] <;> rfl), by repeat (first | (with_reducible first | exact HB.out | apply below_alloc | apply pw_below_drewN | apply below_drew1 | refine below_set ?_ GE156.out) | exact HB.out)⟩
    · replace c4 := Bool.eq_false_iff.mpr c4
      subst c4
      have H1 : (some t157) = some r := by rw [if_neg (show ¬ (false = true) by decide)] at H; exact H
      clear H
      have H := H1
      clear H1
      obtain rfl := Option.some.inj H
      go_enter Tryz.func113, Tryz.ntmps113
      go_wp2_with (first | ((with_reducible refine gate_dst (N := 1) rfl ?_); refine box_event ?hg (N := 1) ?hd (cs := #[.slice A0_0 l0_0.length c0_0, .bool false, .int .i64 a0_2, .int .i64 a0_3]) (t := 27) ?hr ?_; (case hd => rfl); (case hg => rfl); (case hr => first | (go_simp; done) | (go_simp; rfl)); intro gb156 hg w9 hbox hb; have n0_ := Aside0.mk (below_step (by repeat (first | (with_reducible first | exact HB.out | apply below_alloc | apply pw_below_drewN | apply below_drew1) | exact HB.out)) hb); have n1_ := Aside0.mk (hbox); have n2_ := Aside0.mk ((by rw [hg]; exact (below_size (by repeat (first | (with_reducible first | exact HB.out | apply below_alloc | apply pw_below_drewN | apply below_drew1) | exact HB.out))) : w.heap.size ≤ gb156)); have n3_ := Aside0.mk ((by rw [hg]; exact (below_size (by repeat (first | (with_reducible first | exact HB.out | apply below_alloc | apply pw_below_drewN | apply below_drew1) | exact HB.out))) : w.heap.size ≤ gb156)); clear HB; have HB := n0_; have BK156 := n1_; have GW156 := n2_; have GE156 := n3_; clear n0_ n1_ n2_ n3_; clear hb hbox hg; have hcz10_0 : w9.cell? ⟨gb156, 0, none⟩ = some (.slice A0_0 l0_0.length c0_0) := (blk_cell BK156.out 0).trans rfl; have hcz10_1 : w9.cell? ⟨gb156, 1, none⟩ = some (.bool false) := (blk_cell BK156.out 1).trans rfl; have hcz10_2 : w9.cell? ⟨gb156, 2, none⟩ = some (.int .i64 a0_2) := (blk_cell BK156.out 2).trans rfl; have hcz10_3 : w9.cell? ⟨gb156, 3, none⟩ = some (.int .i64 a0_3) := (blk_cell BK156.out 3).trans rfl; have hfz10_0 := blk_frozen BK156.out 0; have hfz10_1 := blk_frozen BK156.out 1; have hfz10_2 := blk_frozen BK156.out 2; have hfz10_3 := blk_frozen BK156.out 3) | ((with_reducible refine gate_callee (f := 50) rfl ?_); refine goesL_ (some 5) rfl rfl Tryz.func50 (by kernel_rfl) rfl #[.agg #[.slice A0_0 l0_0.length c0_0, .bool false, .int .i64 a0_2, .int .i64 a0_3]] rfl (by (try simp only [List.map_toArray, List.map_cons, List.map_nil]); first | done | rfl | (simp only [List.length_drop, List.length_take]; rfl)) ?_; (with_reducible refine (disk_Check.calls _ _ l0_0 false a0_2 a0_3 t157 _ ?side1 ?side2 A2.out).mono ?_); (case side1 => repeat (first | exact (Kd.C_below HR0_0.out HB.out) | (with_reducible refine Kd.C_alloc ?_ _) | (with_reducible refine Kd.C_drewN ?_ _) | (with_reducible refine Kd.C_drew ?_))); (case side2 => exact HC0_0.out); rintro e w11 ⟨rfl, hb⟩; refine ⟨_, rfl, ?_⟩; have n0_ := Aside0.mk (blk_below (g := gb156) (o := .cells #[.slice A0_0 l0_0.length c0_0, .bool false, .int .i64 a0_2, .int .i64 a0_3] 27 (0, 0)) (by (with_reducible repeat (first | refine blk_drewN ?_ _ | refine blk_drew ?_ | refine blk_alloc ?_ _)); exact BK156.out) hb); have n1_ := Aside0.mk (below_step (by repeat (first | (with_reducible first | exact HB.out | apply below_alloc | apply pw_below_drewN | apply below_drew1 | refine below_set ?_ GE156.out) | exact HB.out)) hb); clear BK156; clear HB; have BK156 := n0_; have HB := n1_; clear n0_ n1_; (try clear hb); (try clear hb2); (try clear hk); (try clear hi); have hcz12_0 : w11.cell? ⟨gb156, 0, none⟩ = some (.slice A0_0 l0_0.length c0_0) := (blk_cell BK156.out 0).trans rfl; have hcz12_1 : w11.cell? ⟨gb156, 1, none⟩ = some (.bool false) := (blk_cell BK156.out 1).trans rfl; have hcz12_2 : w11.cell? ⟨gb156, 2, none⟩ = some (.int .i64 a0_2) := (blk_cell BK156.out 2).trans rfl; have hcz12_3 : w11.cell? ⟨gb156, 3, none⟩ = some (.int .i64 a0_3) := (blk_cell BK156.out 3).trans rfl; have hfz12_0 := blk_frozen BK156.out 0; have hfz12_1 := blk_frozen BK156.out 1; have hfz12_2 := blk_frozen BK156.out 2; have hfz12_3 := blk_frozen BK156.out 3))
      go_ret
      exact ⟨by first | rfl | (simp [errW_none, errW_some] <;> rfl) | (simp [*, errW_none, errW_some] <;> rfl), by repeat (first | (with_reducible first | exact HB.out | apply below_alloc | apply pw_below_drewN | apply below_drew1 | refine below_set ?_ GE156.out) | exact HB.out)⟩
  · rw [if_neg c3] at H
    have c3b0 : (t157 == 0) = false := beq_eq_false_iff_ne.mpr c3
    have c3b1 : (t157 != 0) = true := bne_iff_ne.mpr c3
    obtain rfl := Option.some.inj H
    go_enter Tryz.func113, Tryz.ntmps113
    go_wp2_with (first | ((with_reducible refine gate_dst (N := 1) rfl ?_); refine box_event ?hg (N := 1) ?hd (cs := #[.slice A0_0 l0_0.length c0_0, .bool a0_1, .int .i64 a0_2, .int .i64 a0_3]) (t := 27) ?hr ?_; (case hd => rfl); (case hg => rfl); (case hr => first | (go_simp; done) | (go_simp; rfl)); intro gb156 hg w13 hbox hb; have n0_ := Aside0.mk (below_step (by repeat (first | (with_reducible first | exact HB.out | apply below_alloc | apply pw_below_drewN | apply below_drew1) | exact HB.out)) hb); have n1_ := Aside0.mk (hbox); have n2_ := Aside0.mk ((by rw [hg]; exact (below_size (by repeat (first | (with_reducible first | exact HB.out | apply below_alloc | apply pw_below_drewN | apply below_drew1) | exact HB.out))) : w.heap.size ≤ gb156)); have n3_ := Aside0.mk ((by rw [hg]; exact (below_size (by repeat (first | (with_reducible first | exact HB.out | apply below_alloc | apply pw_below_drewN | apply below_drew1) | exact HB.out))) : w.heap.size ≤ gb156)); clear HB; have HB := n0_; have BK156 := n1_; have GW156 := n2_; have GE156 := n3_; clear n0_ n1_ n2_ n3_; clear hb hbox hg; have hcz14_0 : w13.cell? ⟨gb156, 0, none⟩ = some (.slice A0_0 l0_0.length c0_0) := (blk_cell BK156.out 0).trans rfl; have hcz14_1 : w13.cell? ⟨gb156, 1, none⟩ = some (.bool a0_1) := (blk_cell BK156.out 1).trans rfl; have hcz14_2 : w13.cell? ⟨gb156, 2, none⟩ = some (.int .i64 a0_2) := (blk_cell BK156.out 2).trans rfl; have hcz14_3 : w13.cell? ⟨gb156, 3, none⟩ = some (.int .i64 a0_3) := (blk_cell BK156.out 3).trans rfl; have hfz14_0 := blk_frozen BK156.out 0; have hfz14_1 := blk_frozen BK156.out 1; have hfz14_2 := blk_frozen BK156.out 2; have hfz14_3 := blk_frozen BK156.out 3) | ((with_reducible refine gate_callee (f := 50) rfl ?_); refine goesL_ (some 5) rfl rfl Tryz.func50 (by kernel_rfl) rfl #[.agg #[.slice A0_0 l0_0.length c0_0, .bool a0_1, .int .i64 a0_2, .int .i64 a0_3]] rfl (by (try simp only [List.map_toArray, List.map_cons, List.map_nil]); first | done | rfl | (simp only [List.length_drop, List.length_take]; rfl)) ?_; (with_reducible refine (disk_Check.calls _ _ l0_0 a0_1 a0_2 a0_3 t157 _ ?side1 ?side2 A2.out).mono ?_); (case side1 => repeat (first | exact (Kd.C_below HR0_0.out HB.out) | (with_reducible refine Kd.C_alloc ?_ _) | (with_reducible refine Kd.C_drewN ?_ _) | (with_reducible refine Kd.C_drew ?_))); (case side2 => exact HC0_0.out); rintro e w15 ⟨rfl, hb⟩; refine ⟨_, rfl, ?_⟩; have n0_ := Aside0.mk (blk_below (g := gb156) (o := .cells #[.slice A0_0 l0_0.length c0_0, .bool a0_1, .int .i64 a0_2, .int .i64 a0_3] 27 (0, 0)) (by (with_reducible repeat (first | refine blk_drewN ?_ _ | refine blk_drew ?_ | refine blk_alloc ?_ _)); exact BK156.out) hb); have n1_ := Aside0.mk (below_step (by repeat (first | (with_reducible first | exact HB.out | apply below_alloc | apply pw_below_drewN | apply below_drew1 | refine below_set ?_ GE156.out) | exact HB.out)) hb); clear BK156; clear HB; have BK156 := n0_; have HB := n1_; clear n0_ n1_; (try clear hb); (try clear hb2); (try clear hk); (try clear hi)))
    go_ret
    exact ⟨by first | rfl | (simp [errW_none, errW_some] <;> rfl) | (simp [*, errW_none, errW_some] <;> rfl), by repeat (first | (with_reducible first | exact HB.out | apply below_alloc | apply pw_below_drewN | apply below_drew1 | refine below_set ?_ GE156.out) | exact HB.out)⟩
end Go.Proofs.YtanonhipicoigaaGreatDoor.U
namespace Go.Proofs.YtanonhipicoigaaGreatDoor.U
open Go.RowKit Go.Proofs.YtanonhipicoigaaGreatDoorW.PrintWords Go.Proofs.YtanonhipicoigaaGreatDoorW.PrintLast Go.Proofs.YtanonhipicoigaaGreatDoorW.PrintMore
attribute [local go_sem] max2_int min2_int max_two min_two max_three min_three max_four min_four   -- for this text's walks alone
set_option linter.unusedVariables false
set_option linter.unusedSimpArgs false
/-! ### disk_Read: function 67 -/
def disk_Read.f (l0_0 : List (S67)) (a0_1 : Bool) (a0_2 : Int) (a0_3 : Int) (a1 : ByteArray) : Option (ByteArray × Int) := (disk_asked.f l0_0 a0_1 a0_2 a0_3).bind fun t159 => (if t159 = 0 then ((disk_place.f l0_0 a0_1 a0_2 a0_3 a1).bind fun bt160 => (if bt160.2 = true then (if 0 ≤ bt160.1 then (if bt160.1 < (l0_0.length : Int) then (some ((rd_T67 l0_0 bt160.1).f1, 0)) else (none)) else (none)) else (some ((⟨#[]⟩ : ByteArray), 7)))) else (some ((⟨#[]⟩ : ByteArray), t159)))
set_option maxHeartbeats 8000000 in
set_option maxRecDepth 100000 in
theorem disk_Read.calls (A0_0 : Option Addr) (c0_0 : Nat) (l0_0 : List (S67)) (a0_1 : Bool) (a0_2 : Int) (a0_3 : Int) (a1 : ByteArray) (r1 : ByteArray) (r2 : Int) (w : World) (hr0_0 : Kd.C k67 w A0_0 l0_0.length l0_0) (hc0_0 : l0_0.length ≤ c0_0) (h : disk_Read.f l0_0 a0_1 a0_2 a0_3 a1 = some (r1, r2)) :
    Calls Tryz.prog 67 #[.agg #[.slice A0_0 l0_0.length c0_0, .bool a0_1, .int .i64 a0_2, .int .i64 a0_3], .string a1] w fun e w' => e = .returned (.tuple #[.string r1, .int .i64 r2]) ∧ Below w.heap.size w w' := by
  have hu27 := Tryz.underlying27
  have HR0_0 := Aside0.mk hr0_0
  have HC0_0 := Aside0.mk hc0_0
  clear hr0_0 hc0_0
  have HB := Aside0.mk (Below.refl w.heap.size w)
  have H : ((disk_asked.f l0_0 a0_1 a0_2 a0_3).bind fun t159 => (if t159 = 0 then ((disk_place.f l0_0 a0_1 a0_2 a0_3 a1).bind fun bt160 => (if bt160.2 = true then (if 0 ≤ bt160.1 then (if bt160.1 < (l0_0.length : Int) then (some ((rd_T67 l0_0 bt160.1).f1, 0)) else (none)) else (none)) else (some ((⟨#[]⟩ : ByteArray), 7)))) else (some ((⟨#[]⟩ : ByteArray), t159)))) = some (r1, r2) := h
  clear h
  replace H := Option.bind_eq_some_iff.mp H
  obtain ⟨t159, A30, H⟩ := H
  replace H : (if t159 = 0 then ((disk_place.f l0_0 a0_1 a0_2 a0_3 a1).bind fun bt160 => (if bt160.2 = true then (if 0 ≤ bt160.1 then (if bt160.1 < (l0_0.length : Int) then (some ((rd_T67 l0_0 bt160.1).f1, 0)) else (none)) else (none)) else (some ((⟨#[]⟩ : ByteArray), 7)))) else (some ((⟨#[]⟩ : ByteArray), t159))) = some (r1, r2) := H
  have A3 := Aside0.mk A30
  clear A30
  by_cases c4 : t159 = 0
  · rw [if_pos c4] at H
    have c4b0 : (t159 == 0) = true := beq_iff_eq.mpr c4
    have c4b1 : (t159 != 0) = false := bne_eq_false_iff_eq.mpr c4
    clear c4
    replace H := Option.bind_eq_some_iff.mp H
    obtain ⟨⟨t160, t161⟩, A50, H⟩ := H
    replace H : (if t161 = true then (if 0 ≤ t160 then (if t160 < (l0_0.length : Int) then (some ((rd_T67 l0_0 t160).f1, 0)) else (none)) else (none)) else (some ((⟨#[]⟩ : ByteArray), 7))) = some (r1, r2) := H
    have A5 := Aside0.mk A50
    clear A50
    by_cases c6 : t161 = true
    · subst c6
      have H1 : (if 0 ≤ t160 then (if t160 < (l0_0.length : Int) then (some ((rd_T67 l0_0 t160).f1, 0)) else (none)) else (none)) = some (r1, r2) := by rw [if_pos rfl] at H; exact H
      clear H
      have H := H1
      clear H1
      by_cases c7 : 0 ≤ t160
      · rw [if_pos c7] at H
        have c7b0 : decide (0 ≤ t160) = true := decide_eq_true c7
        clear c7
        by_cases c8 : t160 < (l0_0.length : Int)
        · rw [if_pos c8] at H
          have c8b0 : decide (t160 < (l0_0.length : Int)) = true := decide_eq_true c8
          clear c8
          simp only [Option.some.injEq, Prod.mk.injEq] at H
          obtain ⟨rfl, rfl⟩ := H
          go_enter Tryz.func67, Tryz.ntmps67
          go_wp2_with (first | ((with_reducible refine gate_dst (N := 2) rfl ?_); refine box_event ?hg (N := 2) ?hd (cs := #[.slice A0_0 l0_0.length c0_0, .bool a0_1, .int .i64 a0_2, .int .i64 a0_3]) (t := 27) ?hr ?_; (case hd => rfl); (case hg => rfl); (case hr => first | (go_simp; done) | (go_simp; rfl)); intro gb158 hg w9 hbox hb; have n0_ := Aside0.mk (below_step (by repeat (first | (with_reducible first | exact HB.out | apply below_alloc | apply pw_below_drewN | apply below_drew1) | exact HB.out)) hb); have n1_ := Aside0.mk (hbox); have n2_ := Aside0.mk ((by rw [hg]; exact (below_size (by repeat (first | (with_reducible first | exact HB.out | apply below_alloc | apply pw_below_drewN | apply below_drew1) | exact HB.out))) : w.heap.size ≤ gb158)); have n3_ := Aside0.mk ((by rw [hg]; exact (below_size (by repeat (first | (with_reducible first | exact HB.out | apply below_alloc | apply pw_below_drewN | apply below_drew1) | exact HB.out))) : w.heap.size ≤ gb158)); clear HB; have HB := n0_; have BK158 := n1_; have GW158 := n2_; have GE158 := n3_; clear n0_ n1_ n2_ n3_; clear hb hbox hg; have hcz10_0 : w9.cell? ⟨gb158, 0, none⟩ = some (.slice A0_0 l0_0.length c0_0) := (blk_cell BK158.out 0).trans rfl; have hcz10_1 : w9.cell? ⟨gb158, 1, none⟩ = some (.bool a0_1) := (blk_cell BK158.out 1).trans rfl; have hcz10_2 : w9.cell? ⟨gb158, 2, none⟩ = some (.int .i64 a0_2) := (blk_cell BK158.out 2).trans rfl; have hcz10_3 : w9.cell? ⟨gb158, 3, none⟩ = some (.int .i64 a0_3) := (blk_cell BK158.out 3).trans rfl; have hfz10_0 := blk_frozen BK158.out 0; have hfz10_1 := blk_frozen BK158.out 1; have hfz10_2 := blk_frozen BK158.out 2; have hfz10_3 := blk_frozen BK158.out 3) | ((with_reducible refine gate_callee (f := 113) rfl ?_); refine goesL_ (some 10) rfl rfl Tryz.func113 (by kernel_rfl) rfl #[.agg #[.slice A0_0 l0_0.length c0_0, .bool a0_1, .int .i64 a0_2, .int .i64 a0_3]] rfl (by (try simp only [List.map_toArray, List.map_cons, List.map_nil]); first | done | rfl | (simp only [List.length_drop, List.length_take]; rfl)) ?_; (with_reducible refine (disk_asked.calls _ _ l0_0 a0_1 a0_2 a0_3 t159 _ ?side1 ?side2 A3.out).mono ?_); (case side1 => repeat (first | exact (Kd.C_below HR0_0.out HB.out) | (with_reducible refine Kd.C_alloc ?_ _) | (with_reducible refine Kd.C_drewN ?_ _) | (with_reducible refine Kd.C_drew ?_))); (case side2 => exact HC0_0.out); rintro e w11 ⟨rfl, hb⟩; refine ⟨_, rfl, ?_⟩; have n0_ := Aside0.mk (blk_below (g := gb158) (o := .cells #[.slice A0_0 l0_0.length c0_0, .bool a0_1, .int .i64 a0_2, .int .i64 a0_3] 27 (0, 0)) (by (with_reducible repeat (first | refine blk_drewN ?_ _ | refine blk_drew ?_ | refine blk_alloc ?_ _)); exact BK158.out) hb); have n1_ := Aside0.mk (below_step (by repeat (first | (with_reducible first | exact HB.out | apply below_alloc | apply pw_below_drewN | apply below_drew1 | refine below_set ?_ GE158.out) | exact HB.out)) hb); clear BK158; clear HB; have BK158 := n0_; have HB := n1_; clear n0_ n1_; (try clear hb); (try clear hb2); (try clear hk); (try clear hi); have hcz12_0 : w11.cell? ⟨gb158, 0, none⟩ = some (.slice A0_0 l0_0.length c0_0) := (blk_cell BK158.out 0).trans rfl; have hcz12_1 : w11.cell? ⟨gb158, 1, none⟩ = some (.bool a0_1) := (blk_cell BK158.out 1).trans rfl; have hcz12_2 : w11.cell? ⟨gb158, 2, none⟩ = some (.int .i64 a0_2) := (blk_cell BK158.out 2).trans rfl; have hcz12_3 : w11.cell? ⟨gb158, 3, none⟩ = some (.int .i64 a0_3) := (blk_cell BK158.out 3).trans rfl; have hfz12_0 := blk_frozen BK158.out 0; have hfz12_1 := blk_frozen BK158.out 1; have hfz12_2 := blk_frozen BK158.out 2; have hfz12_3 := blk_frozen BK158.out 3) | ((with_reducible refine gate_callee (f := 114) rfl ?_); refine goesL_ (some 17) rfl rfl Tryz.func114 (by kernel_rfl) rfl #[.agg #[.slice A0_0 l0_0.length c0_0, .bool a0_1, .int .i64 a0_2, .int .i64 a0_3], .string a1] rfl (by (try simp only [List.map_toArray, List.map_cons, List.map_nil]); first | done | rfl | (simp only [List.length_drop, List.length_take]; rfl)) ?_; (with_reducible refine (disk_place.calls _ _ l0_0 a0_1 a0_2 a0_3 a1 t160 true _ ?side1 ?side2 A5.out).mono ?_); (case side1 => repeat (first | exact (Kd.C_below HR0_0.out HB.out) | (with_reducible refine Kd.C_alloc ?_ _) | (with_reducible refine Kd.C_drewN ?_ _) | (with_reducible refine Kd.C_drew ?_))); (case side2 => exact HC0_0.out); rintro e w13 ⟨rfl, hb⟩; refine ⟨_, rfl, ?_⟩; have n0_ := Aside0.mk (blk_below (g := gb158) (o := .cells #[.slice A0_0 l0_0.length c0_0, .bool a0_1, .int .i64 a0_2, .int .i64 a0_3] 27 (0, 0)) (by (with_reducible repeat (first | refine blk_drewN ?_ _ | refine blk_drew ?_ | refine blk_alloc ?_ _)); exact BK158.out) hb); have n1_ := Aside0.mk (below_step (by repeat (first | (with_reducible first | exact HB.out | apply below_alloc | apply pw_below_drewN | apply below_drew1 | refine below_set ?_ GE158.out) | exact HB.out)) hb); clear BK158; clear HB; have BK158 := n0_; have HB := n1_; clear n0_ n1_; (try clear hb); (try clear hb2); (try clear hk); (try clear hi); have hcz14_0 : w13.cell? ⟨gb158, 0, none⟩ = some (.slice A0_0 l0_0.length c0_0) := (blk_cell BK158.out 0).trans rfl; have hcz14_1 : w13.cell? ⟨gb158, 1, none⟩ = some (.bool a0_1) := (blk_cell BK158.out 1).trans rfl; have hcz14_2 : w13.cell? ⟨gb158, 2, none⟩ = some (.int .i64 a0_2) := (blk_cell BK158.out 2).trans rfl; have hcz14_3 : w13.cell? ⟨gb158, 3, none⟩ = some (.int .i64 a0_3) := (blk_cell BK158.out 3).trans rfl; have hfz14_0 := blk_frozen BK158.out 0; have hfz14_1 := blk_frozen BK158.out 1; have hfz14_2 := blk_frozen BK158.out 2; have hfz14_3 := blk_frozen BK158.out 3; have p162 : 0 ≤ (t160 : Int) := of_decide_eq_true (by first | (with_reducible assumption) | assumption); have q162 : t160 < (l0_0.length : Int) := of_decide_eq_true (by first | (with_reducible assumption) | assumption); obtain ⟨ad162, e162, hx162_0, hx162_1, hx162_2⟩ := at_T67 HR0_0.out t160 p162 q162; cases e162; replace hx162_0 := (HB.out.cell (World.block_lt_of_cell? w _ hx162_0)).trans hx162_0; replace hx162_1 := (HB.out.cell (World.block_lt_of_cell? w _ hx162_1)).trans hx162_1; replace hx162_2 := (HB.out.cell (World.block_lt_of_cell? w _ hx162_2)).trans hx162_2; replace p162 := eq_true p162; replace q162 := eq_true q162))
          go_ret2
          exact ⟨by first | rfl | (simp [errW_none, errW_some] <;> rfl) | (simp [*, errW_none, errW_some] <;> rfl), by repeat (first | (with_reducible first | exact HB.out | apply below_alloc | apply pw_below_drewN | apply below_drew1 | refine below_set ?_ GE158.out) | exact HB.out)⟩
        · rw [if_neg c8] at H
          exact absurd H (by simp)
      · rw [if_neg c7] at H
        exact absurd H (by simp)
    · replace c6 := Bool.eq_false_iff.mpr c6
      subst c6
      have H1 : (some ((⟨#[]⟩ : ByteArray), 7)) = some (r1, r2) := by rw [if_neg (show ¬ (false = true) by decide)] at H; exact H
      clear H
      have H := H1
      clear H1
      simp only [Option.some.injEq, Prod.mk.injEq] at H
      obtain ⟨rfl, rfl⟩ := H
      go_enter Tryz.func67, Tryz.ntmps67
      go_wp2_with (first | ((with_reducible refine gate_dst (N := 2) rfl ?_); refine box_event ?hg (N := 2) ?hd (cs := #[.slice A0_0 l0_0.length c0_0, .bool a0_1, .int .i64 a0_2, .int .i64 a0_3]) (t := 27) ?hr ?_; (case hd => rfl); (case hg => rfl); (case hr => first | (go_simp; done) | (go_simp; rfl)); intro gb158 hg w15 hbox hb; have n0_ := Aside0.mk (below_step (by repeat (first | (with_reducible first | exact HB.out | apply below_alloc | apply pw_below_drewN | apply below_drew1) | exact HB.out)) hb); have n1_ := Aside0.mk (hbox); have n2_ := Aside0.mk ((by rw [hg]; exact (below_size (by repeat (first | (with_reducible first | exact HB.out | apply below_alloc | apply pw_below_drewN | apply below_drew1) | exact HB.out))) : w.heap.size ≤ gb158)); have n3_ := Aside0.mk ((by rw [hg]; exact (below_size (by repeat (first | (with_reducible first | exact HB.out | apply below_alloc | apply pw_below_drewN | apply below_drew1) | exact HB.out))) : w.heap.size ≤ gb158)); clear HB; have HB := n0_; have BK158 := n1_; have GW158 := n2_; have GE158 := n3_; clear n0_ n1_ n2_ n3_; clear hb hbox hg; have hcz16_0 : w15.cell? ⟨gb158, 0, none⟩ = some (.slice A0_0 l0_0.length c0_0) := (blk_cell BK158.out 0).trans rfl; have hcz16_1 : w15.cell? ⟨gb158, 1, none⟩ = some (.bool a0_1) := (blk_cell BK158.out 1).trans rfl; have hcz16_2 : w15.cell? ⟨gb158, 2, none⟩ = some (.int .i64 a0_2) := (blk_cell BK158.out 2).trans rfl; have hcz16_3 : w15.cell? ⟨gb158, 3, none⟩ = some (.int .i64 a0_3) := (blk_cell BK158.out 3).trans rfl; have hfz16_0 := blk_frozen BK158.out 0; have hfz16_1 := blk_frozen BK158.out 1; have hfz16_2 := blk_frozen BK158.out 2; have hfz16_3 := blk_frozen BK158.out 3) | ((with_reducible refine gate_callee (f := 113) rfl ?_); refine goesL_ (some 10) rfl rfl Tryz.func113 (by kernel_rfl) rfl #[.agg #[.slice A0_0 l0_0.length c0_0, .bool a0_1, .int .i64 a0_2, .int .i64 a0_3]] rfl (by (try simp only [List.map_toArray, List.map_cons, List.map_nil]); first | done | rfl | (simp only [List.length_drop, List.length_take]; rfl)) ?_; (with_reducible refine (disk_asked.calls _ _ l0_0 a0_1 a0_2 a0_3 t159 _ ?side1 ?side2 A3.out).mono ?_); (case side1 => repeat (first | exact (Kd.C_below HR0_0.out HB.out) | (with_reducible refine Kd.C_alloc ?_ _) | (with_reducible refine Kd.C_drewN ?_ _) | (with_reducible refine Kd.C_drew ?_))); (case side2 => exact HC0_0.out); rintro e w17 ⟨rfl, hb⟩; refine ⟨_, rfl, ?_⟩; have n0_ := Aside0.mk (blk_below (g := gb158) (o := .cells #[.slice A0_0 l0_0.length c0_0, .bool a0_1, .int .i64 a0_2, .int .i64 a0_3] 27 (0, 0)) (by (with_reducible repeat (first | refine blk_drewN ?_ _ | refine blk_drew ?_ | refine blk_alloc ?_ _)); exact BK158.out) hb); have n1_ := Aside0.mk (below_step (by repeat (first | (with_reducible first | exact HB.out | apply below_alloc | apply pw_below_drewN | apply below_drew1 | refine below_set ?_ GE158.out) | exact HB.out)) hb); clear BK158; clear HB; have BK158 := n0_; have HB := n1_; clear n0_ n1_; (try clear hb); (try clear hb2); (try clear hk); (try clear hi); have hcz18_0 : w17.cell? ⟨gb158, 0, none⟩ = some (.slice A0_0 l0_0.length c0_0) := (blk_cell BK158.out 0).trans rfl; have hcz18_1 : w17.cell? ⟨gb158, 1, none⟩ = some (.bool a0_1) := (blk_cell BK158.out 1).trans rfl; have hcz18_2 : w17.cell? ⟨gb158, 2, none⟩ = some (.int .i64 a0_2) := (blk_cell BK158.out 2).trans rfl; have hcz18_3 : w17.cell? ⟨gb158, 3, none⟩ = some (.int .i64 a0_3) := (blk_cell BK158.out 3).trans rfl; have hfz18_0 := blk_frozen BK158.out 0; have hfz18_1 := blk_frozen BK158.out 1; have hfz18_2 := blk_frozen BK158.out 2; have hfz18_3 := blk_frozen BK158.out 3) | ((with_reducible refine gate_callee (f := 114) rfl ?_); refine goesL_ (some 17) rfl rfl Tryz.func114 (by kernel_rfl) rfl #[.agg #[.slice A0_0 l0_0.length c0_0, .bool a0_1, .int .i64 a0_2, .int .i64 a0_3], .string a1] rfl (by (try simp only [List.map_toArray, List.map_cons, List.map_nil]); first | done | rfl | (simp only [List.length_drop, List.length_take]; rfl)) ?_; (with_reducible refine (disk_place.calls _ _ l0_0 a0_1 a0_2 a0_3 a1 t160 false _ ?side1 ?side2 A5.out).mono ?_); (case side1 => repeat (first | exact (Kd.C_below HR0_0.out HB.out) | (with_reducible refine Kd.C_alloc ?_ _) | (with_reducible refine Kd.C_drewN ?_ _) | (with_reducible refine Kd.C_drew ?_))); (case side2 => exact HC0_0.out); rintro e w19 ⟨rfl, hb⟩; refine ⟨_, rfl, ?_⟩; have n0_ := Aside0.mk (blk_below (g := gb158) (o := .cells #[.slice A0_0 l0_0.length c0_0, .bool a0_1, .int .i64 a0_2, .int .i64 a0_3] 27 (0, 0)) (by (with_reducible repeat (first | refine blk_drewN ?_ _ | refine blk_drew ?_ | refine blk_alloc ?_ _)); exact BK158.out) hb); have n1_ := Aside0.mk (below_step (by repeat (first | (with_reducible first | exact HB.out | apply below_alloc | apply pw_below_drewN | apply below_drew1 | refine below_set ?_ GE158.out) | exact HB.out)) hb); clear BK158; clear HB; have BK158 := n0_; have HB := n1_; clear n0_ n1_; (try clear hb); (try clear hb2); (try clear hk); (try clear hi)))
      go_ret2
      exact ⟨by first | rfl | (simp [errW_none, errW_some] <;> rfl) | (simp [*, errW_none, errW_some] <;> rfl), by repeat (first | (with_reducible first | exact HB.out | apply below_alloc | apply pw_below_drewN | apply below_drew1 | refine below_set ?_ GE158.out) | exact HB.out)⟩
  · rw [if_neg c4] at H
    have c4b0 : (t159 == 0) = false := beq_eq_false_iff_ne.mpr c4
    have c4b1 : (t159 != 0) = true := bne_iff_ne.mpr c4
    simp only [Option.some.injEq, Prod.mk.injEq] at H
    obtain ⟨rfl, rfl⟩ := H
    go_enter Tryz.func67, Tryz.ntmps67
    go_wp2_with (first | ((with_reducible refine gate_dst (N := 2) rfl ?_); refine box_event ?hg (N := 2) ?hd (cs := #[.slice A0_0 l0_0.length c0_0, .bool a0_1, .int .i64 a0_2, .int .i64 a0_3]) (t := 27) ?hr ?_; (case hd => rfl); (case hg => rfl); (case hr => first | (go_simp; done) | (go_simp; rfl)); intro gb158 hg w20 hbox hb; have n0_ := Aside0.mk (below_step (by repeat (first | (with_reducible first | exact HB.out | apply below_alloc | apply pw_below_drewN | apply below_drew1) | exact HB.out)) hb); have n1_ := Aside0.mk (hbox); have n2_ := Aside0.mk ((by rw [hg]; exact (below_size (by repeat (first | (with_reducible first | exact HB.out | apply below_alloc | apply pw_below_drewN | apply below_drew1) | exact HB.out))) : w.heap.size ≤ gb158)); have n3_ := Aside0.mk ((by rw [hg]; exact (below_size (by repeat (first | (with_reducible first | exact HB.out | apply below_alloc | apply pw_below_drewN | apply below_drew1) | exact HB.out))) : w.heap.size ≤ gb158)); clear HB; have HB := n0_; have BK158 := n1_; have GW158 := n2_; have GE158 := n3_; clear n0_ n1_ n2_ n3_; clear hb hbox hg; have hcz21_0 : w20.cell? ⟨gb158, 0, none⟩ = some (.slice A0_0 l0_0.length c0_0) := (blk_cell BK158.out 0).trans rfl; have hcz21_1 : w20.cell? ⟨gb158, 1, none⟩ = some (.bool a0_1) := (blk_cell BK158.out 1).trans rfl; have hcz21_2 : w20.cell? ⟨gb158, 2, none⟩ = some (.int .i64 a0_2) := (blk_cell BK158.out 2).trans rfl; have hcz21_3 : w20.cell? ⟨gb158, 3, none⟩ = some (.int .i64 a0_3) := (blk_cell BK158.out 3).trans rfl; have hfz21_0 := blk_frozen BK158.out 0; have hfz21_1 := blk_frozen BK158.out 1; have hfz21_2 := blk_frozen BK158.out 2; have hfz21_3 := blk_frozen BK158.out 3) | ((with_reducible refine gate_callee (f := 113) rfl ?_); refine goesL_ (some 10) rfl rfl Tryz.func113 (by kernel_rfl) rfl #[.agg #[.slice A0_0 l0_0.length c0_0, .bool a0_1, .int .i64 a0_2, .int .i64 a0_3]] rfl (by (try simp only [List.map_toArray, List.map_cons, List.map_nil]); first | done | rfl | (simp only [List.length_drop, List.length_take]; rfl)) ?_; (with_reducible refine (disk_asked.calls _ _ l0_0 a0_1 a0_2 a0_3 t159 _ ?side1 ?side2 A3.out).mono ?_); (case side1 => repeat (first | exact (Kd.C_below HR0_0.out HB.out) | (with_reducible refine Kd.C_alloc ?_ _) | (with_reducible refine Kd.C_drewN ?_ _) | (with_reducible refine Kd.C_drew ?_))); (case side2 => exact HC0_0.out); rintro e w22 ⟨rfl, hb⟩; refine ⟨_, rfl, ?_⟩; have n0_ := Aside0.mk (blk_below (g := gb158) (o := .cells #[.slice A0_0 l0_0.length c0_0, .bool a0_1, .int .i64 a0_2, .int .i64 a0_3] 27 (0, 0)) (by (with_reducible repeat (first | refine blk_drewN ?_ _ | refine blk_drew ?_ | refine blk_alloc ?_ _)); exact BK158.out) hb); have n1_ := Aside0.mk (below_step (by repeat (first | (with_reducible first | exact HB.out | apply below_alloc | apply pw_below_drewN | apply below_drew1 | refine below_set ?_ GE158.out) | exact HB.out)) hb); clear BK158; clear HB; have BK158 := n0_; have HB := n1_; clear n0_ n1_; (try clear hb); (try clear hb2); (try clear hk); (try clear hi)))
    go_ret2
    exact ⟨by first | rfl | (simp [errW_none, errW_some] <;> rfl) | (simp [*, errW_none, errW_some] <;> rfl), by repeat (first | (with_reducible first | exact HB.out | apply below_alloc | apply pw_below_drewN | apply below_drew1 | refine below_set ?_ GE158.out) | exact HB.out)⟩
end Go.Proofs.YtanonhipicoigaaGreatDoor.U
namespace Go.Proofs.YtanonhipicoigaaGreatDoor.U
open Go.RowKit Go.Proofs.YtanonhipicoigaaGreatDoorW.PrintWords Go.Proofs.YtanonhipicoigaaGreatDoorW.PrintLast Go.Proofs.YtanonhipicoigaaGreatDoorW.PrintMore
set_option linter.unusedVariables false
set_option linter.unusedSimpArgs false
/-! ### What the disk answers, in plain words -/
theorem disk_Read_eq (l : List S67) (dn : Bool) (fu fa : Int) (s : ByteArray) : disk_Read.f l dn fu fa s = some ((readF l dn s).1, (readF l dn s).2) := by
  unfold disk_Read.f disk_asked.f disk_Check.f readF
  by_cases h : rightF l = true
  · simp only [if_pos h, Option.bind_some]
    cases dn
    · simp only [if_true, Bool.false_eq_true, if_false, disk_place.f, if_pos (right_len h), Option.bind_some]
      unfold getF
      by_cases hi : isAt l s (bsOf l s) = true
      · obtain ⟨x, hx, _⟩ := (isAt_iff _ _ _).1 hi
        have hlt := (List.getElem?_eq_some_iff.1 hx).1
        rw [if_pos hi, if_pos hi, hx, if_pos (by omega), if_pos (by omega), rd_get hx]
      · rw [if_neg hi, if_neg hi]
    · simp
  · simp only [if_neg h, Option.bind_some]
    simp
def appendF (l : List S67) (dn : Bool) (fu fa : Int) (s d : ByteArray) : List S67 × Bool × Int × Int × Int := changedF l dn fu fa s true (rfW d l) (fun i => l.set i.toNat ⟨(rd_T67 l i).f0, (rd_T67 l i).f1 ++ d, (rd_T67 l i).f2⟩)
def cutF (l : List S67) (dn : Bool) (fu fa : Int) (s : ByteArray) (n : Int) : List S67 × Bool × Int × Int × Int := changedF l dn fu fa s false (rfT n l) (fun i => l.set i.toNat ⟨(rd_T67 l i).f0, (rd_T67 l i).f1.extract 0 n.toNat, n⟩)
def removeF (l : List S67) (dn : Bool) (fu fa : Int) (s : ByteArray) : List S67 × Bool × Int × Int × Int := changedF l dn fu fa s false (fun _ b => if b = true then 0 else 7) (fun i => l.take i.toNat ++ l.drop (i.toNat + 1))
def syncF (l : List S67) (dn : Bool) (fu fa : Int) (s : ByteArray) : List S67 × Bool × Int × Int × Int := changedF l dn fu fa s false (fun _ b => if b = true then 0 else 7) (fun i => l.set i.toNat ⟨(rd_T67 l i).f0, (rd_T67 l i).f1, ((rd_T67 l i).f1.size : Int)⟩)
def createF (l : List S67) (dn : Bool) (fu fa : Int) (s : ByteArray) : List S67 × Bool × Int × Int × Int := changedF l dn fu fa s false (rfC s l.length) (fun i => l.take i.toNat ++ [(⟨s, ⟨#[]⟩, 0⟩ : S67)] ++ l.drop i.toNat)
theorem disk_Append_eq (l : List S67) (dn : Bool) (fu fa : Int) (s d : ByteArray) : disk_Append.f l dn fu fa s d = some (appendF l dn fu fa s d) := rfl
theorem disk_Cut_eq (l : List S67) (dn : Bool) (fu fa : Int) (s : ByteArray) (n : Int) : disk_Cut.f l dn fu fa s n = some (cutF l dn fu fa s n) := rfl
theorem disk_Remove_eq (l : List S67) (dn : Bool) (fu fa : Int) (s : ByteArray) : disk_Remove.f l dn fu fa s = some (removeF l dn fu fa s) := rfl
theorem disk_Sync_eq (l : List S67) (dn : Bool) (fu fa : Int) (s : ByteArray) : disk_Sync.f l dn fu fa s = some (syncF l dn fu fa s) := rfl
theorem disk_Create_eq (l : List S67) (dn : Bool) (fu fa : Int) (s : ByteArray) : disk_Create.f l dn fu fa s = some (createF l dn fu fa s) := rfl
theorem changed_whole {l : List S67} (h : rightF l = true) (s : ByteArray) (wr : Bool) (rf : Int → Bool → Int) (df : Int → List S67) :
    changedF l false (-1) (-1) s wr rf df = if rf (bsOf l s) (isAt l s (bsOf l s)) = 0 then (df (bsOf l s), false, -1, -1, 0) else (l, false, -1, -1, rf (bsOf l s) (isAt l s (bsOf l s))) := by
  simp [changedF, h]
theorem at_read {l : List S67} {s : ByteArray} (h : rightF l = true) {x : S67} (hx : x ∈ l) (e : x.f0.toList = s.toList) : readF l false s = (x.f1, 0) := by
  rw [readF, if_pos h, if_neg (by simp), (getF_iff h s x).2 ⟨hx, e⟩]
end Go.Proofs.YtanonhipicoigaaGreatDoor.U
namespace Go.Proofs.YtanonhipicoigaaGreatDoor.SegP
open Go.Proofs.YtanonhipicoigaaGreatDoor.U
set_option linter.unusedVariables false
set_option linter.unusedSimpArgs false
/-! Plain laws on bytes: names of sixteen digits, frames, records. No program in sight. -/
/-- bytes in order (as the model's own word goes) -/
def bl : List UInt8 → List UInt8 → Bool
  | _, [] => false
  | [], _ :: _ => true
  | x :: r, y :: s => decide (x < y) || (x == y && bl r s)
def hexd (d : Nat) : UInt8 := UInt8.ofNat (if d < 10 then 48 + d else 87 + d)
def hexN : Nat → Nat → List UInt8
  | 0, _ => []
  | k + 1, n => hexd (n / 16 ^ k % 16) :: hexN k (n % 16 ^ k)
theorem hexN_length : ∀ k n, (hexN k n).length = k
  | 0, _ => rfl
  | k + 1, n => by simp [hexN, hexN_length k]
theorem hexd_toNat {d : Nat} (h : d < 16) : (hexd d).toNat = if d < 10 then 48 + d else 87 + d := by
  unfold hexd
  split <;> simp [UInt8.toNat_ofNat'] <;> omega
theorem hexd_lt {a b : Nat} (hb : b < 16) (h : a < b) : hexd a < hexd b := by
  rw [UInt8.lt_iff_toNat_lt, hexd_toNat hb, hexd_toNat (by omega)]
  split <;> split <;> omega
theorem hexN_lt : ∀ (k a b : Nat), b < 16 ^ k → a < b → bl (hexN k a) (hexN k b) = true
  | 0, a, b, hb, h => by simp at hb; omega
  | k + 1, a, b, hb, h => by
    have hp : 0 < 16 ^ k := Nat.pow_pos (by decide)
    have hb' : b / 16 ^ k < 16 := by rw [Nat.div_lt_iff_lt_mul hp]; rw [Nat.pow_succ] at hb; omega
    have hle : a / 16 ^ k ≤ b / 16 ^ k := Nat.div_le_div_right (by omega)
    have hda := Nat.div_add_mod a (16 ^ k)
    have hdb := Nat.div_add_mod b (16 ^ k)
    have hma := Nat.mod_lt a hp
    have hmb := Nat.mod_lt b hp
    simp only [hexN, bl, Bool.or_eq_true, Bool.and_eq_true, decide_eq_true_eq, beq_iff_eq]
    rw [Nat.mod_eq_of_lt hb', Nat.mod_eq_of_lt (show a / 16 ^ k < 16 by omega)]
    rcases Nat.lt_or_ge (a / 16 ^ k) (b / 16 ^ k) with g | g
    · exact .inl (hexd_lt hb' g)
    · have e : a / 16 ^ k = b / 16 ^ k := by omega
      refine .inr ⟨by rw [e], hexN_lt k _ _ hmb ?_⟩
      rw [e] at hda
      omega
theorem hexN_inj {k a b : Nat} (ha : a < 16 ^ k) (hb : b < 16 ^ k) (h : hexN k a = hexN k b) : a = b := by
  have irr : ∀ l, bl l l = false := by
    intro l
    induction l with
    | nil => rfl
    | cons x r ih => simp [bl, ih]
  rcases Nat.lt_trichotomy a b with g | g | g
  · have := hexN_lt k a b hb g; rw [h, irr] at this; cases this
  · exact g
  · have := hexN_lt k b a ha g; rw [h, irr] at this; cases this
/-! Plain laws on bytes: frames and how they are read. -/
abbrev Bytes := List UInt8
/-- a number's lowest bytes, the lowest one first -/
def lowL (n : Nat) : Nat → Bytes
  | 0 => []
  | k + 1 => UInt8.ofNat n :: lowL (n / 256) k
theorem lowL_length : ∀ k n, (lowL n k).length = k
  | 0, _ => rfl
  | k + 1, n => by simp [lowL, lowL_length k]
/-- the number that bytes tell, the lowest one first -/
def numL : Bytes → Nat
  | [] => 0
  | b :: r => b.toNat + 256 * numL r
theorem numL_lowL : ∀ k n, n < 256 ^ k → numL (lowL n k) = n
  | 0, n, h => by simp at h; simp [lowL, numL, h]
  | k + 1, n, h => by
    have h' : n / 256 < 256 ^ k := by rw [Nat.div_lt_iff_lt_mul (by decide)]; rw [Nat.pow_succ] at h; exact h
    simp only [lowL, numL, numL_lowL k _ h', UInt8.toNat_ofNat']
    omega
/-- how a frame's head is made: of the number, of the data; four bytes more than said (the sum) -/
structure Sum where
  f : Nat → Bytes → Bytes
  four : ∀ n d, (f n d).length = 4
def frame (S : Sum) (n : Nat) (d : Bytes) : Bytes := lowL d.length 4 ++ (lowL n 8 ++ (S.f n d ++ d))
theorem frame_length (S : Sum) (n : Nat) (d : Bytes) : (frame S n d).length = 16 + d.length := by
  simp [frame, lowL_length, S.four]; omega
def most : Nat := 4611686018427387904
def maxB : Nat := 65536
/-- the first record of what is left -/
def first (S : Sum) (l : Bytes) (n : Nat) : Option Bytes :=
  if 16 ≤ l.length ∧ n < most ∧ numL (l.take 4) ≤ maxB ∧ numL (l.take 4) ≤ l.length - 16 ∧ l.take (16 + numL (l.take 4)) = frame S n ((l.drop 16).take (numL (l.take 4))) then some ((l.drop 16).take (numL (l.take 4))) else none
theorem first_some {S : Sum} {l : Bytes} {n : Nat} {d : Bytes} (h : first S l n = some d) : ∃ r, l = frame S n d ++ r ∧ d.length ≤ maxB ∧ n < most := by
  unfold first at h
  split at h
  case isFalse => cases h
  rename_i hc
  obtain ⟨h1, h2, h3, h4, h5⟩ := hc
  injection h with h
  subst h
  refine ⟨l.drop (16 + numL (l.take 4)), ?_, ?_, h2⟩
  · rw [← h5, List.take_append_drop]
  · simp only [List.length_take, List.length_drop]; omega
theorem first_frame (S : Sum) {n : Nat} {d r : Bytes} (hd : d.length ≤ maxB) (hn : n < most) : first S (frame S n d ++ r) n = some d := by
  have hl := frame_length S n d
  have h4 : (frame S n d ++ r).take 4 = lowL d.length 4 := by
    rw [frame, List.append_assoc]
    rw [List.take_append_of_le_length (by rw [lowL_length]; omega), List.take_of_length_le (by rw [lowL_length]; omega)]
  have hnum : numL ((frame S n d ++ r).take 4) = d.length := by
    rw [h4, numL_lowL]; unfold maxB at hd; omega
  have hdr : ((frame S n d ++ r).drop 16).take d.length = d := by
    have e : frame S n d = (lowL d.length 4 ++ lowL n 8 ++ S.f n d) ++ d := by simp [frame]
    have e16 : (lowL d.length 4 ++ lowL n 8 ++ S.f n d).length = 16 := by simp [lowL_length, S.four]
    rw [e, List.append_assoc, List.drop_append_of_le_length (by omega), List.drop_of_length_le (by omega)]
    simp
  unfold first
  rw [hnum, hdr, if_pos]
  refine ⟨?_, hn, hd, ?_, ?_⟩
  · rw [List.length_append, hl]; omega
  · rw [List.length_append, hl]; omega
  · rw [List.take_append_of_le_length (by omega), List.take_of_length_le (by omega)]
/-- a beginning of a frame, short of it, is none -/
theorem first_short (S : Sum) {n m : Nat} {d : Bytes} {k : Nat} (hd : d.length ≤ maxB) (hk : k < (frame S n d).length) : first S ((frame S n d).take k) m = none := by
  have hl := frame_length S n d
  unfold first
  rw [if_neg]
  rintro ⟨h1, h2, h3, h4, h5⟩
  rw [List.length_take] at h1 h4
  have h4' : ((frame S n d).take k).take 4 = lowL d.length 4 := by
    rw [List.take_take, Nat.min_eq_left (by omega), frame]
    rw [List.take_append_of_le_length (by rw [lowL_length]; omega), List.take_of_length_le (by rw [lowL_length]; omega)]
  have hnum : numL (((frame S n d).take k).take 4) = d.length := by
    rw [h4', numL_lowL]; unfold maxB at hd; omega
  rw [hnum] at h4
  omega
/-- what is read of bytes from a number on: the records' data, and how many bytes they have -/
def readL (S : Sum) : Nat → Bytes → Nat → List Bytes × Nat
  | 0, _, _ => ([], 0)
  | k + 1, l, n => match first S l n with
    | none => ([], 0)
    | some d => (d :: (readL S k (l.drop (16 + d.length)) (n + 1)).1, 16 + d.length + (readL S k (l.drop (16 + d.length)) (n + 1)).2)
def framesL (S : Sum) : Nat → List Bytes → Bytes
  | _, [] => []
  | n, d :: r => frame S n d ++ framesL S (n + 1) r
theorem framesL_append (S : Sum) : ∀ (n : Nat) (a b : List Bytes), framesL S n (a ++ b) = framesL S n a ++ framesL S (n + a.length) b
  | n, [], b => by simp [framesL]
  | n, d :: a, b => by simp [framesL, framesL_append S (n + 1) a b, Nat.add_assoc, Nat.add_comm 1]
theorem readL_fuel (S : Sum) : ∀ (k k' : Nat) (l : Bytes) (n : Nat), l.length ≤ k → l.length ≤ k' → readL S k l n = readL S k' l n
  | 0, 0, _, _, _, _ => rfl
  | 0, k' + 1, l, n, h, _ => by
    have e : first S l n = none := by unfold first; rw [if_neg]; omega
    simp [readL, e]
  | k + 1, 0, l, n, _, h => by
    have e : first S l n = none := by unfold first; rw [if_neg]; omega
    simp [readL, e]
  | k + 1, k' + 1, l, n, h, h' => by
    unfold readL
    cases e : first S l n with
    | none => rfl
    | some d =>
      have := readL_fuel S k k' (l.drop (16 + d.length)) (n + 1) (by rw [List.length_drop]; omega) (by rw [List.length_drop]; omega)
      simp only [this]
def readB (S : Sum) (l : Bytes) (n : Nat) : List Bytes × Nat := readL S l.length l n
theorem readB_none {S : Sum} {l : Bytes} {n : Nat} (h : first S l n = none) : readB S l n = ([], 0) := by
  unfold readB
  cases l with
  | nil => rfl
  | cons x r => simp [readL, h]
theorem readB_some {S : Sum} {l : Bytes} {n : Nat} {d : Bytes} (h : first S l n = some d) :
    readB S l n = (d :: (readB S (l.drop (16 + d.length)) (n + 1)).1, 16 + d.length + (readB S (l.drop (16 + d.length)) (n + 1)).2) := by
  unfold readB
  obtain ⟨r, e, _⟩ := first_some h
  have hl : 16 ≤ l.length := by rw [e, List.length_append, frame_length]; omega
  obtain ⟨k, hk⟩ : ∃ k, l.length = k + 1 := ⟨l.length - 1, by omega⟩
  rw [hk, readL, h]
  simp only
  rw [readL_fuel S k (l.drop (16 + d.length)).length _ _ (by rw [List.length_drop]; omega) (Nat.le_refl _)]
theorem readB_frame (S : Sum) {n : Nat} {d r : Bytes} (hd : d.length ≤ maxB) (hn : n < most) :
    readB S (frame S n d ++ r) n = (d :: (readB S r (n + 1)).1, 16 + d.length + (readB S r (n + 1)).2) := by
  rw [readB_some (first_frame S hd hn), List.drop_append_of_le_length (by rw [frame_length]; omega), List.drop_of_length_le (by rw [frame_length]; omega), List.nil_append]
/-- what is read is what lies there: frames, and a rest that is none. -/
theorem readB_spec (S : Sum) : ∀ (k : Nat) (l : Bytes) (n : Nat), l.length ≤ k → ∃ r, l = framesL S n (readB S l n).1 ++ r ∧ (readB S l n).2 = (framesL S n (readB S l n).1).length ∧ (∀ d ∈ (readB S l n).1, d.length ≤ maxB) ∧
    first S r (n + (readB S l n).1.length) = none ∧ (n ≤ most → n + (readB S l n).1.length ≤ most)
  | k, l, n, hk => by
    cases e : first S l n with
    | none => rw [readB_none e]; exact ⟨l, by simp [framesL], rfl, by simp, by simpa using e, fun h => by simpa using h⟩
    | some d =>
      obtain ⟨r, rfl, hd, hn⟩ := first_some e
      have hl := frame_length S n d
      rw [List.length_append] at hk
      match k, hk with
      | 0, hk => omega
      | k + 1, hk =>
        obtain ⟨t, h1, h2, h3, h4, h5⟩ := readB_spec S k r (n + 1) (by omega)
        rw [readB_frame S hd hn]
        refine ⟨t, ?_, ?_, ?_, ?_, ?_⟩
        · simp only [framesL, List.append_assoc]
          rw [← h1]
        · simp only [framesL, List.length_append, hl, h2]
        · intro x hx
          rcases List.mem_cons.1 hx with rfl | hx
          · exact hd
          · exact h3 x hx
        · simp only [List.length_cons]
          rw [show n + ((readB S r (n + 1)).1.length + 1) = n + 1 + (readB S r (n + 1)).1.length by omega]
          exact h4
        · intro hm
          simp only [List.length_cons]
          have := h5 (by omega)
          omega
theorem readB_frames (S : Sum) : ∀ (ds : List Bytes) (n : Nat) (r : Bytes), (∀ d ∈ ds, d.length ≤ maxB) → n + ds.length ≤ most →
    readB S (framesL S n ds ++ r) n = (ds ++ (readB S r (n + ds.length)).1, (framesL S n ds).length + (readB S r (n + ds.length)).2)
  | [], n, r, _, _ => by simp [framesL]
  | d :: ds, n, r, hd, hn => by
    simp only [List.length_cons] at hn
    simp only [framesL, List.append_assoc]
    rw [readB_frame S (hd d (by simp)) (by omega), readB_frames S ds (n + 1) r (fun x hx => hd x (by simp [hx])) (by omega)]
    have e : n + 1 + ds.length = n + (ds.length + 1) := by omega
    rw [List.length_cons, e]
    refine Prod.ext ?_ ?_
    · simp
    · simp only [List.length_append, frame_length]; omega
theorem readB_frames_nil (S : Sum) {ds : List Bytes} {n : Nat} (hd : ∀ d ∈ ds, d.length ≤ maxB) (hn : n + ds.length ≤ most) : readB S (framesL S n ds) n = (ds, (framesL S n ds).length) := by
  have := readB_frames S ds n [] hd hn
  have e : readB S [] (n + ds.length) = ([], 0) := rfl
  rw [e] at this
  simpa using this
/-! ### What is read of files -/
def byt (s : ByteArray) : Bytes := s.data.toList
theorem byt_length (s : ByteArray) : (byt s).length = s.size := by rw [byt, Array.length_toList]; rfl
theorem byt_inj {a b : ByteArray} (h : byt a = byt b) : a = b := by
  cases a; cases b
  simp only [byt, ByteArray.mk.injEq] at h ⊢
  exact Array.toList_inj.1 h
theorem byt_extract (s : ByteArray) (i j : Nat) : byt (s.extract i j) = ((byt s).take j).drop i := by
  simp [byt, ByteArray.data_extract, List.take_drop]
  rcases Nat.le_total i j with h | h
  · rw [show i + (j - i) = j by omega]
  · rw [show i + (j - i) = i by omega, List.drop_of_length_le (by simp; omega), List.drop_of_length_le (by simp; omega)]
theorem byt_append (a b : ByteArray) : byt (a ++ b) = byt a ++ byt b := by simp [byt, ByteArray.data_append]
theorem byt_mk (l : Bytes) : byt ⟨l.toArray⟩ = l := by simp [byt]
noncomputable def numOf (s : ByteArray) : Option Nat :=
  open Classical in if h : ∃ n, n ≤ most ∧ hexN 16 n = byt s then some h.choose else none
theorem numOf_iff {s : ByteArray} {n : Nat} : numOf s = some n ↔ n ≤ most ∧ hexN 16 n = byt s := by
  unfold numOf
  constructor
  · intro h
    split at h
    · rename_i hx
      injection h with h
      rw [← h]
      exact hx.choose_spec
    · cases h
  · intro h
    have hx : ∃ n, n ≤ most ∧ hexN 16 n = byt s := ⟨n, h⟩
    rw [dif_pos hx]
    have h2 := hx.choose_spec
    have hb : most < 16 ^ 16 := by decide
    rw [hexN_inj (Nat.lt_of_le_of_lt h2.1 hb) (Nat.lt_of_le_of_lt h.1 hb) (h2.2.trans h.2.symm)]
abbrev Pl := S67 × Nat
noncomputable def placesF (l : List S67) : List Pl := l.filterMap fun f => (numOf f.f0).map fun n => (f, n)
structure Fd where
  recs : List Bytes
  next : Nat
  torn : Option (Pl × Nat)
  gone : List Pl
def goF (S : Sum) : List Pl → Nat → Fd
  | [], n => ⟨[], n, none, []⟩
  | p :: r, n => if p.2 = n then
      if (readB S (byt p.1.f1) n).2 < p.1.f1.size then ⟨(readB S (byt p.1.f1) n).1, n + (readB S (byt p.1.f1) n).1.length, some (p, (readB S (byt p.1.f1) n).2), r⟩
      else ⟨(readB S (byt p.1.f1) n).1 ++ (goF S r (n + (readB S (byt p.1.f1) n).1.length)).recs, (goF S r (n + (readB S (byt p.1.f1) n).1.length)).next, (goF S r (n + (readB S (byt p.1.f1) n).1.length)).torn, (goF S r (n + (readB S (byt p.1.f1) n).1.length)).gone⟩
    else ⟨[], n, none, p :: r⟩
/-- files that are whole, one behind the other: their records, the number behind them -/
def chain (S : Sum) : Nat → List Pl → List Bytes → Nat → Prop
  | n, [], ds, m => ds = [] ∧ m = n
  | n, p :: r, ds, m => p.2 = n ∧ ∃ d1 d2, ds = d1 ++ d2 ∧ readB S (byt p.1.f1) n = (d1, p.1.f1.size) ∧ chain S (n + d1.length) r d2 m
theorem chain_append (S : Sum) : ∀ (n : Nat) (a b : List Pl) (ds es : List Bytes) (m k : Nat), chain S n a ds m → chain S m b es k → chain S n (a ++ b) (ds ++ es) k
  | n, [], b, ds, es, m, k, h, h2 => by
    obtain ⟨rfl, rfl⟩ := h
    exact h2
  | n, p :: r, b, ds, es, m, k, h, h2 => by
    obtain ⟨h1, d1, d2, rfl, h3, h4⟩ := h
    exact ⟨h1, d1, d2 ++ es, by simp, h3, chain_append S _ r b d2 es m k h4 h2⟩
theorem chain_next (S : Sum) : ∀ (n : Nat) (a : List Pl) (ds : List Bytes) (m : Nat), chain S n a ds m → m = n + ds.length
  | n, [], ds, m, h => by obtain ⟨rfl, rfl⟩ := h; simp
  | n, p :: r, ds, m, h => by
    obtain ⟨h1, d1, d2, rfl, h3, h4⟩ := h
    have := chain_next S _ r d2 m h4
    simp only [List.length_append]; omega
theorem goF_chain (S : Sum) : ∀ (n : Nat) (a rest : List Pl) (ds : List Bytes) (m : Nat), chain S n a ds m →
    goF S (a ++ rest) n = ⟨ds ++ (goF S rest m).recs, (goF S rest m).next, (goF S rest m).torn, (goF S rest m).gone⟩
  | n, [], rest, ds, m, h => by obtain ⟨rfl, rfl⟩ := h; simp
  | n, p :: r, rest, ds, m, h => by
    obtain ⟨h1, d1, d2, rfl, h3, h4⟩ := h
    rw [List.cons_append, goF, if_pos h1, h3]
    simp only [Nat.lt_irrefl, if_false]
    rw [goF_chain S _ r rest d2 m h4]
    simp
/-- how what is found stands in the places -/
theorem goF_spec (S : Sum) : ∀ (ps : List Pl) (n : Nat), ∃ kept ds m, chain S n kept ds m ∧
    (((goF S ps n).torn = none ∧ ps = kept ++ (goF S ps n).gone ∧ (goF S ps n).recs = ds ∧ (goF S ps n).next = m ∧ (∀ p r, (goF S ps n).gone = p :: r → p.2 ≠ m)) ∨
     ∃ p e dt, (goF S ps n).torn = some (p, e) ∧ ps = kept ++ p :: (goF S ps n).gone ∧ p.2 = m ∧ readB S (byt p.1.f1) m = (dt, e) ∧ e < p.1.f1.size ∧ (goF S ps n).recs = ds ++ dt ∧ (goF S ps n).next = m + dt.length)
  | [], n => ⟨[], [], n, ⟨rfl, rfl⟩, .inl ⟨rfl, rfl, rfl, rfl, by intro p r h; cases h⟩⟩
  | p :: r, n => by
    by_cases h1 : p.2 = n
    · by_cases h2 : (readB S (byt p.1.f1) n).2 < p.1.f1.size
      · refine ⟨[], [], n, ⟨rfl, rfl⟩, .inr ⟨p, (readB S (byt p.1.f1) n).2, (readB S (byt p.1.f1) n).1, ?_⟩⟩
        rw [goF, if_pos h1, if_pos h2]
        exact ⟨rfl, rfl, h1, rfl, h2, rfl, rfl⟩
      · have he : (readB S (byt p.1.f1) n).2 = p.1.f1.size := by
          obtain ⟨t, g1, g2, _⟩ := readB_spec S _ (byt p.1.f1) n (Nat.le_refl _)
          have := congrArg List.length g1
          rw [byt_length, List.length_append] at this
          omega
        obtain ⟨kept, ds, m, hc, hh⟩ := goF_spec S r (n + (readB S (byt p.1.f1) n).1.length)
        refine ⟨p :: kept, (readB S (byt p.1.f1) n).1 ++ ds, m, ⟨h1, _, ds, rfl, by rw [← he], hc⟩, ?_⟩
        rw [goF, if_pos h1, if_neg h2]
        rcases hh with ⟨a1, a2, a3, a4, a5⟩ | ⟨q, e, dt, a1, a2, a3, a4, a5, a6, a7⟩
        · exact .inl ⟨a1, by simp only [List.cons_append, List.cons.injEq, true_and]; exact a2, by simp only [a3], a4, a5⟩
        · exact .inr ⟨q, e, dt, a1, by simp only [List.cons_append, List.cons.injEq, true_and]; exact a2, a3, a4, a5, by simp only [a6, List.append_assoc], a7⟩
    · refine ⟨[], [], n, ⟨rfl, rfl⟩, .inl ?_⟩
      rw [goF, if_neg h1]
      exact ⟨rfl, rfl, rfl, rfl, by intro q t h; injection h with h _; rw [← h]; exact h1⟩
/-- what is behind the end goes from its end: what is found stays -/
theorem goF_prefix (S : Sum) (ps : List Pl) (n : Nat) (front g1 g2 : List Pl) (hg : (goF S ps n).gone = g1 ++ g2) (hf : ps = front ++ (goF S ps n).gone) :
    goF S (front ++ g1) n = ⟨(goF S ps n).recs, (goF S ps n).next, (goF S ps n).torn, g1⟩ := by
  obtain ⟨kept, ds, m, hc, hh⟩ := goF_spec S ps n
  rcases hh with ⟨a1, a2, a3, a4, a5⟩ | ⟨q, e, dt, a1, a2, a3, a4, a5, a6, a7⟩
  · have : front = kept := List.append_cancel_right (hf.symm.trans a2)
    subst this
    rw [goF_chain S n front g1 ds m hc, a1, a3, a4]
    cases g1 with
    | nil => simp [goF]
    | cons p r =>
      have := a5 p (r ++ g2) (by rw [hg]; rfl)
      rw [goF, if_neg this]
      simp
  · have e1 : front = kept ++ [q] := List.append_cancel_right (hf.symm.trans (a2.trans (by simp)))
    subst e1
    rw [List.append_assoc, goF_chain S n kept _ ds m hc, a1, a6, a7]
    simp only [List.singleton_append, goF, if_pos a3, a4, if_pos a5]
/-- a torn file that is cut is whole -/
theorem read_cut (S : Sum) {s : ByteArray} {n e : Nat} {dt : List Bytes} (h : readB S (byt s) n = (dt, e)) (hn : n ≤ most) : (s.extract 0 e).size = e ∧ readB S (byt (s.extract 0 e)) n = (dt, (s.extract 0 e).size) := by
  obtain ⟨t, g1, g2, g3, g4, g5⟩ := readB_spec S _ (byt s) n (Nat.le_refl _)
  rw [h] at g1 g2 g3 g4 g5
  simp only at g1 g2 g3 g4 g5
  have hb : byt (s.extract 0 e) = framesL S n dt := by
    rw [byt_extract, List.drop_zero, g1, g2, List.take_append_of_le_length (by omega), List.take_of_length_le (by omega)]
  have hs : (s.extract 0 e).size = e := by rw [← byt_length, hb, g2]
  refine ⟨hs, ?_⟩
  rw [hb, readB_frames_nil S g3 (g5 hn), hs, g2]
open Go.RowKit Go.Proofs.YtanonhipicoigaaGreatDoorW.PrintWords
/-- The sum that the program makes. -/
def SU : Sum where
  f n d := lowL (sumI (n : Int) ⟨d.toArray⟩).toNat 4
  four n d := lowL_length _ _
theorem byt_nums (xs : List Int) : byt (strOfNums xs) = xs.map fun n => UInt8.ofNat n.toNat := strOfNums_data xs
theorem byt_bytesOf (d : ByteArray) : (bytesOf d).map (fun n => UInt8.ofNat n.toNat) = byt d := by
  simp [bytesOf, byt, List.map_map, Function.comp_def]
theorem lowL_get : ∀ (k n : Nat), lowL n k = (List.range k).map fun i => UInt8.ofNat (n / 256 ^ i)
  | 0, n => rfl
  | k + 1, n => by
    rw [lowL, lowL_get k (n / 256), List.range_succ_eq_map, List.map_cons, List.map_map]
    simp only [Nat.pow_zero, Nat.div_one, List.cons.injEq, true_and]
    refine List.map_congr_left fun i _ => ?_
    simp only [Function.comp]
    rw [Nat.div_div_eq_div_mul, Nat.pow_succ, Nat.mul_comm]
theorem lowI_bytes (n k : Nat) : (lowI (n : Int) k).map (fun x => UInt8.ofNat x.toNat) = lowL n k := by
  rw [lowL_get, lowI, List.map_map]
  refine List.map_congr_left fun i _ => ?_
  simp only [Function.comp, byteAt]
  have e : (n : Int) / 2 ^ (8 * i) % 256 = ((n / 2 ^ (8 * i) % 256 : Nat) : Int) := by rw [Int.natCast_emod, Int.natCast_ediv, Int.natCast_pow]; rfl
  rw [e, Int.toNat_natCast, show (256 : Nat) ^ i = 2 ^ (8 * i) by rw [Nat.pow_mul]]
  apply UInt8.toNat_inj.1
  simp
theorem frame_bytes (q : Nat) (d : ByteArray) : byt (frameF (q : Int) d) = frame SU q (byt d) := by
  have hs : 0 ≤ sumI (q : Int) d := (bits_u32 _ _ _).1
  obtain ⟨m, hm⟩ := Int.eq_ofNat_of_zero_le hs
  rw [frameF, byt_nums, frameI, headI, hm]
  simp only [List.map_append, byt_bytesOf]
  rw [show (m : Int) = ((m : Nat) : Int) from rfl, lowI_bytes, lowI_bytes, lowI_bytes]
  simp only [frame, SU, byt_length, List.append_assoc]
  congr 3
  rw [show (⟨(byt d).toArray⟩ : ByteArray) = d from byt_inj (byt_mk _), hm]
  simp
end Go.Proofs.YtanonhipicoigaaGreatDoor.SegP
set_option linter.unusedVariables false
set_option linter.unusedSimpArgs false
namespace Go.Proofs.YtanonhipicoigaaGreatDoor.Sp
open Go.RowKit Go.Proofs.YtanonhipicoigaaGreatDoorW.PrintWords Go.Proofs.YtanonhipicoigaaGreatDoorW.PrintLast Go.Proofs.YtanonhipicoigaaGreatDoorW.PrintMore
theorem putObj_upd (W : World) (r : Nat) (o : Obj) : Upd W (W.putObj r o) (fun k => k = r) :=
  ⟨rfl, rfl, rfl, by simp, fun k _ hn => World.putObj_heap_other hn⟩
theorem Sep.putObj {b W : World} {pre post : List Res} {r : Nat} {o : Obj} (H : Sep b W (pre ++ thing r o :: post)) (o' : Obj) : Sep b (W.putObj r o') (pre ++ thing r o' :: post) := by
  have h : W.heap[r]? = some o := H.all (thing r o) (by simp)
  exact H.upd (r' := thing r o') (putObj_upd W r o') (World.putObj_heap_same (blk_lt h)) (fun k hk => .inl hk)
theorem Sep.thing_ {b W : World} {rs : List Res} {r : Nat} {o : Obj} (H : Sep b W rs) (hm : thing r o ∈ rs) : W.heap[r]? = some o := H.all _ hm
theorem Sep.push_thing {b W : World} {rs : List Res} (H : Sep b W rs) (o : Obj) : Sep b (W.alloc o) (thing W.heap.size o :: rs) :=
  H.push (below_alloc (Below.refl _ _) _) _ (blk_new W _) (fun g hg => by rw [show g = W.heap.size from hg]; exact Nat.le_refl _)
/-- What an iterator is asked: it hands out xs, one by one, as long as it is asked on (always); its own things are 'own' ahead of each; whatever else there is ('T' says which) is turned by the rounds alone. -/
def IterOK {α : Type} (P : Program) (b : World) (gf : Nat) (lb : Array Value) (encs : α → Array Value) (xs : List α) (own : List α → List Res) : Prop :=
  ∀ (l : Nat) (T : List α → List Res → Prop) (W : World),
    (∀ pre x post, xs = pre ++ x :: post → ∀ W1 ts, T pre ts → Aside0 (Sep b W1 (own pre ++ ts)) → YieldAt Fence.wide 0 P l (encs x) W1 fun e W' => e = .returned (.bool true) ∧ ∃ ts', T (pre ++ [x]) ts' ∧ Aside0 (Sep b W' (own pre ++ ts'))) →
    (∃ ts, T [] ts ∧ Aside0 (Sep b W (own [] ++ ts))) →
    CallsIn Fence.wide 0 P gf (#[.func (.yield l) #[] #[]] ++ lb) W fun e W' => (∃ v, e = .returned v) ∧ ∃ ts, T xs ts ∧ Aside0 (Sep b W' (own xs ++ ts))
theorem perm3 {α : Type} (a b c : List α) : (a ++ (b ++ c)).Perm (b ++ (a ++ c)) := by
  rw [← List.append_assoc, ← List.append_assoc]
  exact List.Perm.append_right c List.perm_append_comm
/-- The statement: rounds that go on. -/
theorem range_sep {α : Type} {P : Program} {g : Operand} {ps : Array Tmp} {assign body : Code} {Q : Exit → Act → World → Prop} {a : Act} {b w : World} {gf : Nat} {lb : Array Value}
    (encs : α → Array Value) (xs : List α) (own : List α → List Res) (R : List α → List Res → Prop) (M : List α → α → Act → List Res → Prop) (rs0 : List Res)
    (hg : a.eval g = .func (.func gf) #[] lb) (eg : ∀ args w, (callFunc gf args).run P w = .ok (.enter gf args) w) (hps : ∀ x, (encs x).size = ps.size)
    (hi : IterOK P b gf lb encs xs own) (hR0 : R [] rs0) (H : Aside0 (Sep b w (own [] ++ rs0)))
    (hassign : ∀ (l : Nat) (S : List Res) (pre : List α) (x : α) (post : List α) (W1 : World) (rs : List Res) (K : Act → World → Prop), xs = pre ++ x :: post → R pre rs → Aside0 (Sep b W1 (rs ++ S)) →
      (∀ a1 W2 ms, M pre x a1 ms → Aside0 (Sep b W2 (ms ++ S)) → K a1 W2) →
      assign.wpIn (Fence.wide.inRound l) 0 P (Exit.then K (fun _ _ _ => False)) { tmps := (ps.zip (encs x)).foldl (fun t (p, v) => t.setIfInBounds p v) a.tmps, defers := [] } W1)
    (hbody : ∀ (l : Nat) (S : List Res) (pre : List α) (x : α) (post : List α) (a1 : Act) (W2 : World) (ms : List Res), xs = pre ++ x :: post → M pre x a1 ms → Aside0 (Sep b W2 (ms ++ S)) →
      body.wpIn (Fence.wide.inRound l) 0 P (Exit.then (fun _ W3 => ∃ rs, R (pre ++ [x]) rs ∧ Aside0 (Sep b W3 (rs ++ S))) (fun _ _ _ => False)) a1 W2)
    (hdone : ∀ (D : Nat) (W2 : World) (rs : List Res), R xs rs → Aside0 (Sep b W2 (rs ++ (own xs ++ [thing D (.deferred (some []))]))) → Q .normal { a with defers := { target := .collected D, args := #[] } :: a.defers } W2) :
    (Code.rangeFunc g ps assign body).wp P Q a w := by
  refine wpIn_wide (n := 0).1 (wpIn_rangeFunc ?_)
  intro fn hfn
  obtain ⟨rec, hrec⟩ : ∃ rec : LoopState → Loop, rec = fun st => { state := st, pending := none, fn, tmps := a.tmps, params := ps, assign, body, defers := w.heap.size } := ⟨_, rfl⟩
  obtain ⟨W1, hW1⟩ : ∃ W1, (w.alloc (.deferred (some []))).alloc (.loop (rec .ready)) = W1 := ⟨_, rfl⟩
  have H1 : Sep b W1 (thing (w.heap.size + 1) (.loop (rec .ready)) :: thing w.heap.size (.deferred (some [])) :: (own [] ++ rs0)) := by
    rw [← hW1]
    have := (H.out.push_thing (.deferred (some []))).push_thing (.loop (rec .ready))
    rwa [World.size_alloc] at this
  obtain ⟨l, hl⟩ : ∃ l, l = w.heap.size + 1 := ⟨_, rfl⟩
  obtain ⟨D, hD⟩ : ∃ D, D = w.heap.size := ⟨_, rfl⟩
  refine ⟨w.heap.size + 1, [{ target := .collected w.heap.size, args := #[] }], W1, { target := .fn (.func gf) lb, args := #[.func (.yield (w.heap.size + 1)) #[] #[]] }, W1, gf,
    #[.func (.yield (w.heap.size + 1)) #[] #[]] ++ lb, W1, ?_, ?_, ?_, ?_, (fun h => by cases h), ?_⟩
  · rw [← hW1, hrec]; exact run_enterLoop_outer _ _ _ _ _
  · simp only [resolve, hg]
    simp [go_sem]
  · intro f' _; trivial
  · simp [invoke, go_sem, eg]
  · rw [← hl, ← hD] at H1 ⊢
    refine (hi l (fun pre ts => ∃ rs, R pre rs ∧ ts = rs ++ [thing l (.loop (rec .ready)), thing D (.deferred (some []))]) W1 ?_ ⟨_, ⟨rs0, hR0, rfl⟩, ⟨H1.perm ?_⟩⟩).mono ?_
    · rintro pre x post hx W2 ts ⟨rs, hR, rfl⟩ H2
      have H3 : Sep b W2 ((own pre ++ rs) ++ thing l (.loop (rec .ready)) :: [thing D (.deferred (some []))]) := by
        have := H2.out
        rwa [← List.append_assoc] at this
      have hlp := H3.thing_ (r := l) (o := .loop (rec .ready)) (by simp)
      have hy := run_yield (P := P) (args := encs x) hlp (by rw [hrec]; exact hps x)
      rw [hrec] at hy
      refine ⟨fn, _, assign, body, hy, roundIn_of_wpIn hfn ?_⟩
      refine hassign l (own pre ++ [thing l (.loop (rec .ready)), thing D (.deferred (some []))]) pre x post W2 rs _ hx hR ⟨H2.out.perm (perm3 _ _ _)⟩ ?_
      intro a1 W3 ms hM H4
      have H5 : Sep b W3 ((ms ++ own pre) ++ thing l (.loop (rec .ready)) :: [thing D (.deferred (some []))]) := by
        have := H4.out
        rwa [← List.append_assoc] at this
      have hl3 := H5.thing_ (r := l) (o := .loop (rec .ready)) (by simp)
      refine ⟨_, run_beginRound hl3 (by rw [hrec]), ?_⟩
      have H6 := H5.putObj (.loop { rec .ready with state := .busy })
      rw [List.append_assoc] at H6
      refine wpIn_mono (hbody l (own pre ++ thing l (.loop { rec .ready with state := .busy }) :: [thing D (.deferred (some []))]) pre x post a1 _ ms hx hM ⟨H6⟩) ?_
      rintro e a3 W4 hp
      cases e with
      | normal =>
        obtain ⟨rs', hR', Hp⟩ := (show ∃ rs', R (pre ++ [x]) rs' ∧ Aside0 (Sep b W4 (rs' ++ (own pre ++ thing l (.loop { rec .ready with state := .busy }) :: [thing D (.deferred (some []))]))) from hp)
        have H7 : Sep b W4 ((rs' ++ own pre) ++ thing l (.loop { rec .ready with state := .busy }) :: [thing D (.deferred (some []))]) := by
          have := Hp.out
          rwa [← List.append_assoc] at this
        have hl4 := H7.thing_ (r := l) (o := .loop { rec .ready with state := .busy }) (by simp)
        have hend := run_endRound (P := P) none hl4
        refine ⟨_, _, hend, rfl, _, ⟨rs', hR', rfl⟩, ⟨?_⟩⟩
        have H8 := H7.putObj (.loop (rec .ready))
        have e1 : (Obj.loop { ({ rec .ready with state := .busy } : Loop) with state := if (none : Option Code).isNone then .ready else .done, pending := none }) = .loop (rec .ready) := by rw [hrec]; rfl
        rw [e1]
        rw [List.append_assoc] at H8
        exact H8.perm (perm3 _ _ _)
      | ret => exact hp.elim
      | exit id => exact hp.elim
      | goto t => exact hp.elim
      | panic ch => exact hp.elim
      | outgrown => exact hp.elim
    · have hp := List.perm_append_comm (l₁ := [thing l (.loop (rec .ready)), thing D (.deferred (some []))]) (l₂ := own [] ++ rs0)
      rw [List.append_assoc] at hp
      exact hp
    · rintro e W2 ⟨⟨v, rfl⟩, ts, ⟨rs, hR, rfl⟩, H2⟩
      have H3 : Sep b W2 ((own xs ++ rs) ++ thing l (.loop (rec .ready)) :: [thing D (.deferred (some []))]) := by
        have := H2.out
        rwa [← List.append_assoc] at this
      have hl3 := H3.thing_ (r := l) (o := .loop (rec .ready)) (by simp)
      have hend := run_endLoop (P := P) hl3 (by rw [hrec]; simp)
      rw [show (rec .ready).pending = none by rw [hrec]] at hend
      refine ⟨none, _, hend, hdone D _ rs hR ⟨?_⟩⟩
      refine Sep.perm ?_ (perm3 (own xs) rs _)
      rw [← List.append_assoc]
      exact (H3.putObj _).drop
/-! ### A function's end, marks among its deferred calls -/
def marks (ds : List Nat) : List Res := ds.map fun D => thing D (.deferred (some []))
def markOf (D : Nat) : Deferred := { target := .collected D, args := #[] }
theorem leaves_marks {P : Program} {fn : Func} {tmps : Array Value} {R : Ending → World → Prop} {b : World} {rs : List Res} : ∀ (ds : List Nat) (w : World), Aside0 (Sep b w (rs ++ marks ds)) →
    (∀ w', Aside0 (Sep b w' rs) → ∃ v, (results fn tmps).run P w' = .ok v w' ∧ R (.returned v) w') → LeavesInM Fence.wide 0 P fn tmps R (ds.map markOf) .returning w
  | [], w, H, hR => hR w ⟨by have := H.out; simpa [marks] using this⟩
  | D :: ds, w, H, hR => by
    have hD := H.out.thing_ (r := D) (o := .deferred (some [])) (by simp [marks])
    refine ⟨by simp, .inl ⟨D, _, rfl, run_takeDeferred hD, leaves_marks ds _ ⟨?_⟩ hR⟩⟩
    exact ((show Sep b w (rs ++ thing D (.deferred (some [])) :: marks ds) from H.out).putObj (.deferred none)).drop
end Go.Proofs.YtanonhipicoigaaGreatDoor.Sp
namespace Go.Proofs.YtanonhipicoigaaGreatDoor.SegP
open Go.Proofs.YtanonhipicoigaaGreatDoor.U Go.RowKit Go.Proofs.YtanonhipicoigaaGreatDoorW.PrintWords
set_option linter.unusedVariables false
set_option linter.unusedSimpArgs false
/-- A record as it is handed out: the place behind it, its number, its data. -/
abbrev Rc := Nat × Nat × ByteArray
def recsL : List Bytes → Nat → Nat → List Rc
  | [], _, _ => []
  | d :: ds, a, n => (a + 16 + d.length, n, ⟨d.toArray⟩) :: recsL ds (a + 16 + d.length) (n + 1)
def recsAt (s : ByteArray) (a n : Nat) : List Rc := recsL (readB SU ((byt s).drop a) n).1 a n
theorem recs_none {s : ByteArray} {a n : Nat} (h : first SU ((byt s).drop a) n = none) : recsAt s a n = [] := by rw [recsAt, readB_none h]; rfl
theorem recs_some {s : ByteArray} {a n : Nat} {d : ByteArray} (h : first SU ((byt s).drop a) n = some (byt d)) : recsAt s a n = (a + 16 + d.size, n, d) :: recsAt s (a + 16 + d.size) (n + 1) := by
  rw [recsAt, readB_some h, recsL, byt_length, List.drop_drop, show (⟨(byt d).toArray⟩ : ByteArray) = d from byt_inj (byt_mk _), recsAt, show a + (16 + d.size) = a + 16 + d.size by omega]
/-- The number that four bytes tell, as the loop makes it: the last byte first. -/
def numV (s : ByteArray) (a : Nat) : Nat → Int
  | 0 => 0
  | j + 1 => numV s a j * 256 + bt s ((a : Int) + (3 - (j : Int)))
theorem numV_range (s : ByteArray) (a : Nat) : ∀ j, 0 ≤ numV s a j ∧ numV s a j < 256 ^ j
  | 0 => ⟨Int.le_refl _, by simp [numV]⟩
  | j + 1 => by
    have h := numV_range s a j
    have hb := bt_range s ((a : Int) + (3 - (j : Int)))
    rw [numV, Int.pow_succ]
    omega
theorem bt_get {s : ByteArray} {i : Nat} (h : i < s.size) : bt s (i : Int) = (((byt s)[i]'(by rw [byt_length]; exact h)).toNat : Int) := by
  rw [bt, dif_pos (by simpa using h)]
  rfl
theorem take4 {l : Bytes} (h : 4 ≤ l.length) : l.take 4 = [l[0], l[1], l[2], l[3]] := by
  match l, h with
  | a :: b :: c :: d :: r, _ => rfl
theorem num_eq {s : ByteArray} {a : Nat} (h : a + 16 ≤ s.size) : numV s a 4 = ((numL (((byt s).drop a).take 4) : Nat) : Int) := by
  have hl : ((byt s).drop a).length = s.size - a := by rw [List.length_drop, byt_length]
  rw [take4 (by omega)]
  simp only [numV, numL, List.getElem_drop]
  have e (j : Nat) (hj : j < 4) : bt s ((a : Int) + (3 - (j : Int))) = (((byt s)[a + (3 - j)]'(by rw [byt_length]; omega)).toNat : Int) := by
    rw [← bt_get (by omega)]
    congr 1
    omega
  have e0 := e 0 (by omega)
  have e1 := e 1 (by omega)
  have e2 := e 2 (by omega)
  have e3 := e 3 (by omega)
  simp only [Nat.sub_zero, Nat.reduceSub] at e0 e1 e2 e3
  simp only [e0, e1, e2, e3]
  omega
theorem first_no {s : ByteArray} {a n : Nat} (h : ¬ (a + 16 ≤ s.size ∧ n < most)) : first SU ((byt s).drop a) n = none := by
  rw [first, if_neg]
  rintro ⟨h1, h2, _⟩
  rw [List.length_drop, byt_length] at h1
  exact h ⟨by omega, h2⟩
theorem first_big {s : ByteArray} {a n : Nat} {k : Nat} (hk : k = numL (((byt s).drop a).take 4)) (h : ¬ (k ≤ 65536 ∧ k ≤ s.size - a - 16)) : first SU ((byt s).drop a) n = none := by
  rw [first, if_neg]
  rintro ⟨h1, h2, h3, h4, _⟩
  rw [List.length_drop, byt_length] at h4
  rw [← hk] at h3 h4
  exact h ⟨h3, h4⟩
theorem sub_bytes (s : ByteArray) (a k : Nat) : ((byt s).drop a).take (16 + k) = byt (s.extract a (a + 16 + k)) := by
  rw [byt_extract, List.take_drop, show a + (16 + k) = a + 16 + k by omega]
theorem data_bytes (s : ByteArray) (a k : Nat) : (((byt s).drop a).drop 16).take k = byt (s.extract (a + 16) (a + 16 + k)) := by
  rw [byt_extract, List.drop_drop, List.take_drop]
theorem first_other {s : ByteArray} {a n : Nat} {k : Nat} (hk : k = numL (((byt s).drop a).take 4)) (h : s.extract a (a + 16 + k) ≠ frameF (n : Int) (s.extract (a + 16) (a + 16 + k))) : first SU ((byt s).drop a) n = none := by
  rw [first, if_neg]
  rintro ⟨h1, h2, h3, h4, h5⟩
  rw [← hk, sub_bytes, data_bytes, ← frame_bytes] at h5
  exact h (byt_inj h5)
theorem first_is {s : ByteArray} {a n : Nat} {k : Nat} (hk : k = numL (((byt s).drop a).take 4)) (h0 : a + 16 ≤ s.size) (hn : n < most) (h1 : k ≤ 65536) (h2 : k ≤ s.size - a - 16) (h : s.extract a (a + 16 + k) = frameF (n : Int) (s.extract (a + 16) (a + 16 + k))) :
    first SU ((byt s).drop a) n = some (byt (s.extract (a + 16) (a + 16 + k))) := by
  rw [first, ← hk, sub_bytes, data_bytes, ← frame_bytes, if_pos]
  refine ⟨?_, hn, h1, ?_, by rw [h]⟩
  · rw [List.length_drop, byt_length]; omega
  · rw [List.length_drop, byt_length]; omega
end Go.Proofs.YtanonhipicoigaaGreatDoor.SegP
namespace Go.Proofs.YtanonhipicoigaaGreatDoor.U
open Go.RowKit Go.Proofs.YtanonhipicoigaaGreatDoorW.PrintWords Go.Proofs.YtanonhipicoigaaGreatDoorW.PrintLast Go.Proofs.YtanonhipicoigaaGreatDoorW.PrintMore
attribute [local go_sem] max2_int min2_int max_two min_two max_three min_three max_four min_four   -- for this text's walks alone
set_option linter.unusedVariables false
set_option linter.unusedSimpArgs false
/-! ### strconv_isPowerOfTwo: function 234 -/
def strconv_isPowerOfTwo.f (a0 : Int) : Option (Bool) := some ((Go.bits .and .i64 a0 (wrap64 (a0 - 1))) == 0)
set_option maxHeartbeats 8000000 in
set_option maxRecDepth 100000 in
theorem strconv_isPowerOfTwo.calls (a0 : Int) (r : Bool) (w : World) (h : strconv_isPowerOfTwo.f a0 = some r) :
    Calls Tryz.prog 234 #[.int .i64 a0] w fun e w' => e = .returned (.bool r) ∧ Drawn0 w w' := by
  have H : (some ((Go.bits .and .i64 a0 (wrap64 (a0 - 1))) == 0)) = some r := h
  clear h
  obtain rfl := Option.some.inj H
  go_enter Tryz.func234, Tryz.ntmps234
  go_wp2
  go_ret
  exact ⟨by first | rfl | (simp; done) | (simp [*]; done), by repeat (first | exact Drawn0.refl _ | apply Drawn0.step)⟩
end Go.Proofs.YtanonhipicoigaaGreatDoor.U
namespace Go.Proofs.YtanonhipicoigaaGreatDoor.U
open Go.RowKit Go.Proofs.YtanonhipicoigaaGreatDoorW.PrintWords Go.Proofs.YtanonhipicoigaaGreatDoorW.PrintLast Go.Proofs.YtanonhipicoigaaGreatDoorW.PrintMore Go.Proofs.YtanonhipicoigaaGreatDoor.Sp Go.Proofs.YtanonhipicoigaaGreatDoor.SegP
set_option linter.unusedVariables false
set_option linter.unusedSimpArgs false
theorem tz64_16 (w : World) (hT : w.cell? ⟨7, 15, none⟩ = some (.int .u8 4)) : Calls Tryz.prog 249 #[.int .u64 16] w fun e w' => e = .returned (.int .i64 4) ∧ w' = w := by
  have h1 : IntKind.u64.wrap (-16) = 18446744073709551600 := by decide +kernel
  have h2 : bits .and .u64 16 18446744073709551600 = 16 := by decide +kernel
  go_enter Tryz.func249, Tryz.ntmps249
  go_wp2_with (simp only [h1, h2])
  go_ret
  exact ⟨rfl, rfl⟩
theorem tz_16 (w : World) (hT : w.cell? ⟨7, 15, none⟩ = some (.int .u8 4)) : Calls Tryz.prog 235 #[.int .u64 16] w fun e w' => e = .returned (.int .i64 4) ∧ w' = w := by
  go_enter Tryz.func235, Tryz.ntmps235
  go_wp2_with fail
  refine (tz64_16 w hT).mono ?_
  rintro e w1 ⟨rfl, rfl⟩
  go_wp2
  go_ret
  exact ⟨rfl, rfl⟩
end Go.Proofs.YtanonhipicoigaaGreatDoor.U
namespace Go.Proofs.YtanonhipicoigaaGreatDoor.U
open Go.RowKit Go.Proofs.YtanonhipicoigaaGreatDoorW.PrintWords Go.Proofs.YtanonhipicoigaaGreatDoorW.PrintLast Go.Proofs.YtanonhipicoigaaGreatDoorW.PrintMore Go.Proofs.YtanonhipicoigaaGreatDoor.Sp Go.Proofs.YtanonhipicoigaaGreatDoor.SegP
set_option linter.unusedVariables false
set_option linter.unusedSimpArgs false
theorem nums_set {k : IntKind} (xs : List Int) (i : Nat) (d : Int) : (nums k xs).set i (.int k d) = nums k (xs.set i d) := by simp [nums, List.map_set]
theorem mask15 {x : Int} (h0 : 0 ≤ x) (h1 : x < 18446744073709551616) : bits .and .u64 x 15 = x % 16 := by
  have h := bits_mask .u64 64 (by decide) (fun n g0 g1 => by
    have e : (2 : Int) ^ 64 = 18446744073709551616 := rfl
    rw [e] at g1
    simp [IntKind.wrap, IntKind.signed, IntKind.bits]
    omega) 4 (by decide) x h0 (by rw [show (2 : Int) ^ 64 = 18446744073709551616 from rfl]; exact h1)
  exact h
theorem dig_at (x : Int) (h0 : 0 ≤ x) (h1 : x < 16) (hh : x.toNat < (⟨#[48, 49, 50, 51, 52, 53, 54, 55, 56, 57, 97, 98, 99, 100, 101, 102, 103, 104, 105, 106, 107, 108, 109, 110, 111, 112, 113, 114, 115, 116, 117, 118, 119, 120, 121, 122]⟩ : ByteArray).size) :
    ((((⟨#[48, 49, 50, 51, 52, 53, 54, 55, 56, 57, 97, 98, 99, 100, 101, 102, 103, 104, 105, 106, 107, 108, 109, 110, 111, 112, 113, 114, 115, 116, 117, 118, 119, 120, 121, 122]⟩ : ByteArray)[x.toNat]'hh).toNat : Nat) : Int) = ((hexd x.toNat).toNat : Int) := by
  obtain ⟨d, rfl⟩ := Int.eq_ofNat_of_zero_le h0
  have h2 : d < 16 := by omega
  clear h0 h1
  simp only [Int.toNat_natCast] at hh ⊢
  rcases d with _ | _ | _ | _ | _ | _ | _ | _ | _ | _ | _ | _ | _ | _ | _ | _ | d
  all_goals first | rfl | omega
theorem set_drop {α : Type} (xs : List α) (i : Nat) (d : α) (h : i < xs.length) : (xs.set i d).drop i = d :: xs.drop (i + 1) := by
  rw [List.drop_eq_getElem_cons (by simpa using h), List.getElem_set_self, List.drop_set_of_lt (by omega)]
/-- The last j digits. -/
def tailH (n j : Nat) : List Int := (hexN j (n % 16 ^ j)).map fun b => (b.toNat : Int)
theorem tailH_succ (n j : Nat) : tailH n (j + 1) = ((hexd (n / 16 ^ j % 16)).toNat : Int) :: tailH n j := by
  rw [tailH, hexN, tailH, List.map_cons]
  have hp : 0 < 16 ^ j := Nat.pow_pos (by decide)
  have e1 : n % 16 ^ (j + 1) / 16 ^ j = n / 16 ^ j % 16 := by
    rw [Nat.pow_succ, Nat.mod_mul, Nat.add_mul_div_left _ _ hp, Nat.div_eq_of_lt (Nat.mod_lt _ hp), Nat.zero_add]
  have e2 : n % 16 ^ (j + 1) % 16 ^ j = n % 16 ^ j := by
    rw [Nat.pow_succ, Nat.mod_mul_right_mod]
  rw [e1, e2, Nat.mod_mod]
theorem slice265 (w : World) (ga j : Nat) (hj : j ≤ 15) : (Instr.sliceAt 265 (.pointer (some ⟨ga, 0, none⟩)) (some (.int .i64 (65 - (j : Int) - 1))) none none).run Tryz.prog w = .ok (.slice (some ⟨ga, 65 - j - 1, none⟩) (j + 1) (j + 1)) w := by
  have hal : Tryz.prog.arrayLen 265 = 65 := by kernel_rfl
  have hau : Tryz.prog.underlying 265 = some (.array 65 5) := by kernel_rfl
  have hae : Tryz.prog.elem 265 = 5 := by kernel_rfl
  have hsz : (sizeOf (Tryz.prog.elem 265)).run Tryz.prog w = .ok 1 w := by
    rw [hae]
    kernel_rfl
  rw [run_sliceAt_array_l w 265 ⟨ga, 0, none⟩ (by rw [hal, hae]; exact hau) .i64 _ (by omega) (by rw [hal]; omega), hsz, hal]
  have e : (65 - (j : Int) - 1).toNat = 65 - j - 1 := by omega
  simp only [Result.andThen, slicedAt, e]
  rw [if_neg (by omega)]
  simp only [Addr.add, Nat.mul_one, Nat.zero_add]
  rw [if_neg (by omega), show 65 - (65 - j - 1) = j + 1 by omega]
theorem conv265 (w : World) (ga j : Nat) (hj : j ≤ 15) (xs : List Int) (hx : xs.length = 65) (h : w.heap[ga]? = some (.cells (nums .u8 xs).toArray 265 (0, 0))) :
    (convert 147 9 (.slice (some ⟨ga, 65 - j - 1, none⟩) (j + 1) (j + 1))).run Tryz.prog w = .ok (.string (strOfNums (xs.drop (65 - j - 1)))) w := by
  have hc5 := Kd.C_drop (m := 65 - j - 1) (c := 65) (box_C h (by rw [hx]; decide)) (by rw [hx]; omega) (by rw [hx]; omega)
  rw [if_neg (by omega : ¬ 65 = 65 - j - 1)] at hc5
  have hs5 := Kd.C_string (P := Tryz.prog) (src := 147) (dst := 9) (e := 5) (c := j + 1) Tryz.underlying147 Tryz.underlying5 Tryz.underlying9 hc5
  have e1 : (xs.drop (65 - j - 1)).length = j + 1 := by rw [List.length_drop, hx]; omega
  have e2 : Option.map (fun x : Addr => x.add ((65 - j - 1) * (Kd.int IntKind.u8).sz)) (some ⟨ga, 0, none⟩) = some ⟨ga, 65 - j - 1, none⟩ := by
    have : (Kd.int IntKind.u8).sz = 1 := rfl
    simp only [Option.map, Addr.add, this, Nat.mul_one, Nat.zero_add]
    rw [if_neg (by omega)]
  rw [e1, e2] at hs5
  exact hs5
set_option maxHeartbeats 4000000 in
set_option maxRecDepth 100000 in
theorem formatBits_any (n : Nat) (w : World) (hn : n < 18446744073709551616) (hT : w.cell? ⟨7, 15, none⟩ = some (.int .u8 4)) :
    Calls Tryz.prog 204 #[.slice none 0 0, .int .u64 (n : Int), .int .i64 16, .bool false, .bool false] w fun e w' => ∃ s c, e = .returned (.tuple #[.slice none 0 0, .string s]) ∧ Below w.heap.size w w' ∧ c ≤ 15 ∧ n < 16 ^ (c + 1) ∧ byt s = hexN (c + 1) n := by
  have HN := Aside0.mk hn
  obtain ⟨ni, hni⟩ : ∃ ni : Int, ni = (n : Int) := ⟨_, rfl⟩
  rw [← hni]
  have hn0 : 0 ≤ ni := by omega
  have HNI := Aside0.mk hni
  clear hni hn
  have H := Aside0.mk (Sep.start w)
  have hal : Tryz.prog.arrayLen 265 = 65 := by kernel_rfl
  have hau : Tryz.prog.underlying 265 = some (.array 65 5) := by kernel_rfl
  have hae : Tryz.prog.elem 265 = 5 := by kernel_rfl
  go_enter Tryz.func204, Tryz.ntmps204
  go_wp2_with (first
    | ((with_reducible refine gate_dst (N := 12) rfl ?_);
       refine new_box rfl H (cs := [.int .u8 0, .int .u8 0, .int .u8 0, .int .u8 0, .int .u8 0, .int .u8 0, .int .u8 0, .int .u8 0, .int .u8 0, .int .u8 0, .int .u8 0, .int .u8 0, .int .u8 0, .int .u8 0, .int .u8 0, .int .u8 0, .int .u8 0, .int .u8 0, .int .u8 0, .int .u8 0, .int .u8 0, .int .u8 0, .int .u8 0, .int .u8 0, .int .u8 0, .int .u8 0, .int .u8 0, .int .u8 0, .int .u8 0, .int .u8 0, .int .u8 0, .int .u8 0, .int .u8 0, .int .u8 0, .int .u8 0, .int .u8 0, .int .u8 0, .int .u8 0, .int .u8 0, .int .u8 0, .int .u8 0, .int .u8 0, .int .u8 0, .int .u8 0, .int .u8 0, .int .u8 0, .int .u8 0, .int .u8 0, .int .u8 0, .int .u8 0, .int .u8 0, .int .u8 0, .int .u8 0, .int .u8 0, .int .u8 0, .int .u8 0, .int .u8 0, .int .u8 0, .int .u8 0, .int .u8 0, .int .u8 0, .int .u8 0, .int .u8 0, .int .u8 0, .int .u8 0]) (t := 265) ?hr ?_;
       (case hr => first | (go_simp; done) | (go_simp; rfl));
       intro ga w1 n_;
       simp only [Act.put, List.setIfInBounds_toArray, List.set_cons_zero, List.set_cons_succ];
       clear H;
       have H : Aside0 (Sep w w1 [box ga (nums .u8 (List.replicate 65 0)) 265]) := n_;
       clear n_)
    | fail)
  refine ((strconv_isPowerOfTwo.calls 16 true _ (by decide +kernel)).mono ?_)
  rintro e w2 ⟨rfl, hb⟩
  have n_ := Aside0.mk (H.out.step hb.below)
  clear H hb
  have H := n_
  clear n_
  go_wp2_with fail
  refine ((tz_16 _ ((H.out.below.cell (World.block_lt_of_cell? _ _ hT)).trans hT)).mono ?_)
  rintro e w3 ⟨rfl, rfl⟩
  go_wp2_with fail
  go_loopw [1, 13] (fun v1 v13 wr => ∃ (j : Nat) (ui : Int) (xs : List Int), v1 = .int .u64 ui ∧ v13 = .int .i64 (65 - (j : Int)) ∧ j ≤ 15 ∧ 0 ≤ ui ∧ ui ≤ ni ∧ Aside0 (ui = ((n / 16 ^ j : Nat) : Int)) ∧ Aside0 (xs.length = 65) ∧ Aside0 (xs.drop (65 - j) = tailH n j) ∧ Aside0 (Sep w wr [box ga (nums .u8 xs) 265]))
    (fun v1 _ _ => (intOf v1).toNat)
  case atStart => exact ⟨0, ni, _, rfl, rfl, by omega, hn0, Int.le_refl _, ⟨by rw [HNI.out]; simp⟩, ⟨by simp⟩, ⟨by simp [tailH, hexN]⟩, H⟩
  case round =>
    clear H
    obtain ⟨j, ui, xs, rfl, rfl, hj, hu0, hu1, HU, HXL, HXT, H⟩ := hrel
    have c_a := H.out.cell (g := ga) mem0
    have z_a := H.out.frozen (g := ga) mem0
    by_cases hge : 16 ≤ ui
    · have hj14 : j < 15 := by
        rcases Nat.lt_or_ge j 15 with h | h
        · exact h
        · exfalso
          obtain rfl : j = 15 := by omega
          have h1 := HU.out
          have h2 := HN.out
          have h3 : n / 16 ^ 15 < 16 := by
            rw [Nat.div_lt_iff_lt_mul (Nat.pow_pos (by decide))]
            exact h2
          omega
      have hm : bits .and .u64 ui 15 = ui % 16 := mask15 hu0 (by
        have := HN.out
        have := HNI.out
        omega)
      have hjx : 65 - j - 1 < xs.length := by rw [HXL.out]; omega
      have hc : (nums .u8 xs)[65 - j - 1]? = some (.int .u8 (xs[65 - j - 1]'hjx)) := by simp [nums, hjx]
      go_wp2_with fail
      refine ⟨⟨j + 1, ui / 16, xs.set (65 - j - 1) ((hexd (n / 16 ^ j % 16)).toNat : Int), rfl, by congr 1; omega, by omega, by omega, by omega, ⟨?_⟩, ⟨by rw [List.length_set]; exact HXL.out⟩, ⟨?_⟩, ⟨?_⟩⟩, by simp [intOf]; omega⟩
      · rw [HU.out, Nat.pow_succ, ← Nat.div_div_eq_div_mul]
        rfl
      · rw [show 65 - (j + 1) = 65 - j - 1 by omega, set_drop _ _ _ hjx, show 65 - j - 1 + 1 = 65 - j by omega, HXT.out, tailH_succ]
      · refine Sep.set0 (cs' := nums .u8 _) H.out _ _ ?_
        rw [dig_at (ui % 16) (by omega) (by omega), nums_set]
        congr 3
        rw [HU.out]
        rfl
    · have hjx : 65 - j - 1 < xs.length := by rw [HXL.out]; omega
      have hc : (nums .u8 xs)[65 - j - 1]? = some (.int .u8 (xs[65 - j - 1]'hjx)) := by simp [nums, hjx]
      go_wp2_with (first
        | ((with_reducible refine gate_store (t := 5) (p := 63) rfl ?_);
           refine put_box (rs1 := [box ga (nums .u8 (xs.set (65 - j - 1) ((hexd (n / 16 ^ j % 16)).toNat : Int))) 265]) rfl (t := 5) (p := 63) rfl rfl ?hr (H1 := Sep.set0 (cs' := nums .u8 (xs.set (65 - j - 1) ((hexd (n / 16 ^ j % 16)).toNat : Int))) H.out (65 - j - 1) ?v ?e) ?_;
           (case hr => first | (go_simp; done) | (go_simp; rfl));
           (case e => (rw [dig_at ui hu0 (by omega), nums_set]; congr 3; rw [HU.out, Int.toNat_natCast, Nat.mod_eq_of_lt (by have := HU.out; omega)]));
           intro w5 n_; clear H c_a z_a hc; have H := n_; clear n_;
           obtain ⟨ys, hys⟩ : ∃ ys, ys = xs.set (65 - j - 1) ((hexd (n / 16 ^ j % 16)).toNat : Int) := ⟨_, rfl⟩;
           rw [← hys] at H; have HYS := Aside0.mk hys; clear hys;
           have hsl := slice265 w5 ga j hj;
           have hcv := conv265 w5 ga j hj ys (by rw [HYS.out, List.length_set, HXL.out]) (H.out.box_ mem0);
           obtain ⟨sx, hsx⟩ : ∃ sx, sx = strOfNums (ys.drop (65 - j - 1)) := ⟨_, rfl⟩;
           rw [← hsx] at hcv; have HSX := Aside0.mk hsx; clear hsx)
        | fail)
      go_wp2
      go_ret2
      have hlt : n / 16 ^ j < 16 := by
        have := HU.out
        omega
      have hlt2 : n < 16 ^ (j + 1) := by
        rw [Nat.pow_succ, Nat.mul_comm]
        exact (Nat.div_lt_iff_lt_mul (Nat.pow_pos (by decide))).1 hlt
      refine ⟨sx, j, rfl, H.out.below, hj, hlt2, ?_⟩
      rw [HSX.out, HYS.out, set_drop _ _ _ hjx, show 65 - j - 1 + 1 = 65 - j by omega, HXT.out, ← tailH_succ, byt_nums, tailH, List.map_map, Nat.mod_eq_of_lt hlt2]
      simp [Function.comp_def]
/-- strconv.FormatUint in base 16. -/
theorem formatUint_any (n : Nat) (w : World) (hn : n < 18446744073709551616) (hT : w.cell? ⟨7, 15, none⟩ = some (.int .u8 4)) :
    Calls Tryz.prog 126 #[.int .u64 (n : Int), .int .i64 16] w fun e w' => ∃ s c, e = .returned (.string s) ∧ Below w.heap.size w w' ∧ c ≤ 15 ∧ n < 16 ^ (c + 1) ∧ byt s = hexN (c + 1) n := by
  have FB := Aside0.mk (formatBits_any n w hn hT)
  obtain ⟨ni, hni⟩ : ∃ ni : Int, ni = (n : Int) := ⟨_, rfl⟩
  rw [← hni] at FB ⊢
  clear hni hn
  have F2 : Calls Tryz.prog 168 #[.int .u64 ni, .int .i64 16] w fun e w' => ∃ s c, e = .returned (.string s) ∧ Below w.heap.size w w' ∧ c ≤ 15 ∧ n < 16 ^ (c + 1) ∧ byt s = hexN (c + 1) n := by
    go_enter Tryz.func168, Tryz.ntmps168
    go_wp2_with fail
    refine FB.out.mono ?_
    rintro e w1 ⟨s, c, rfl, h1, h2, h3, h4⟩
    have HH := Aside0.mk (And.intro h1 (And.intro h2 (And.intro h3 h4)))
    clear h1 h2 h3 h4
    go_wp2
    go_ret
    exact ⟨s, c, rfl, HH.out.1, HH.out.2.1, HH.out.2.2.1, HH.out.2.2.2⟩
  have F3 := Aside0.mk F2
  clear F2
  go_enter Tryz.func126, Tryz.ntmps126
  go_wp2_with fail
  refine F3.out.mono ?_
  rintro e w1 ⟨s, c, rfl, h1, h2, h3, h4⟩
  have HH := Aside0.mk (And.intro h1 (And.intro h2 (And.intro h3 h4)))
  clear h1 h2 h3 h4
  go_wp2
  go_ret
  exact ⟨s, c, rfl, HH.out.1, HH.out.2.1, HH.out.2.2.1, HH.out.2.2.2⟩
end Go.Proofs.YtanonhipicoigaaGreatDoor.U
namespace Go.Proofs
open Go.Shelf Go.RowKit
def Tryz.laysC245_ren : Go.Shelf.Ren := ⟨fun | 245 => 200 | 279 => 227 | 280 => 228 | 281 => 229 | 282 => 230 | 316 => 245 | 171 => 247 | 205 => 246 | 243 => 250 | 246 => 251 | 283 => 201 | 284 => 202 | 285 => 203 | 286 => 204 | 129 => 232 | 317 => 231 | 318 => 233 | 319 => 234 | 320 => 235 | 337 => 248 | 338 => 249 | n => n, fun | 9 => 9 | 3 => 3 | 75 => 214 | 167 => 258 | 4 => 4 | 168 => 260 | 210 => 279 | 37 => 147 | 0 => 0 | 127 => 252 | 145 => 284 | 143 => 282 | 2 => 2 | 171 => 244 | 53 => 28 | 5 => 5 | 173 => 246 | 212 => 264 | 51 => 182 | 20 => 20 | 213 => 265 | 46 => 149 | 232 => 285 | 233 => 286 | 80 => 202 | n => n, fun | 15 => 4 | 16 => 5 | 17 => 1 | 18 => 6 | 19 => 7 | n => n⟩
theorem Tryz.laysC245 : Go.Proofs.LaysC.n245 Tryz.prog Tryz.laysC245_ren := {
  mixed := by kernel_rfl
  f129 := Tryz.func232.trans (congrArg some (by kernel_rfl))
  f171 := Tryz.func247.trans (congrArg some (by kernel_rfl))
  f205 := Tryz.func246.trans (congrArg some (by kernel_rfl))
  f243 := Tryz.func250.trans (congrArg some (by kernel_rfl))
  f245 := Tryz.func200.trans (congrArg some (by kernel_rfl))
  f246 := Tryz.func251.trans (congrArg some (by kernel_rfl))
  f279 := Tryz.func227.trans (congrArg some (by kernel_rfl))
  f280 := Tryz.func228.trans (congrArg some (by kernel_rfl))
  f281 := Tryz.func229.trans (congrArg some (by kernel_rfl))
  f282 := Tryz.func230.trans (congrArg some (by kernel_rfl))
  f283 := Tryz.func201.trans (congrArg some (by kernel_rfl))
  f284 := Tryz.func202.trans (congrArg some (by kernel_rfl))
  f285 := Tryz.func203.trans (congrArg some (by kernel_rfl))
  f286 := Tryz.func204.trans (congrArg some (by kernel_rfl))
  f316 := Tryz.func245.trans (congrArg some (by kernel_rfl))
  f317 := Tryz.func231.trans (congrArg some (by kernel_rfl))
  f318 := Tryz.func233.trans (congrArg some (by kernel_rfl))
  f319 := Tryz.func234.trans (congrArg some (by kernel_rfl))
  f320 := Tryz.func235.trans (congrArg some (by kernel_rfl))
  f337 := Tryz.func248.trans (congrArg some (by kernel_rfl))
  f338 := Tryz.func249.trans (congrArg some (by kernel_rfl))
  t0 := Tryz.underlying0
  a0 := Tryz.isAgg0
  z0 := Tryz.sizeOf0
  v0 := Tryz.zeroValue0
  t2 := Tryz.underlying2
  a2 := Tryz.isAgg2
  z2 := Tryz.sizeOf2
  v2 := Tryz.zeroValue2
  t3 := Tryz.underlying3
  a3 := Tryz.isAgg3
  z3 := Tryz.sizeOf3
  v3 := Tryz.zeroValue3
  t4 := Tryz.underlying4
  a4 := Tryz.isAgg4
  z4 := Tryz.sizeOf4
  v4 := Tryz.zeroValue4
  t5 := Tryz.underlying5
  a5 := Tryz.isAgg5
  z5 := Tryz.sizeOf5
  v5 := Tryz.zeroValue5
  t9 := Tryz.underlying9
  a9 := Tryz.isAgg9
  z9 := Tryz.sizeOf9
  v9 := Tryz.zeroValue9
  t20 := Tryz.underlying20
  a20 := Tryz.isAgg20
  z20 := Tryz.sizeOf20
  v20 := Tryz.zeroValue20
  t37 := Tryz.underlying147
  a37 := Tryz.isAgg147
  z37 := Tryz.sizeOf147
  v37 := Tryz.zeroValue147
  t46 := Tryz.underlying149
  a46 := Tryz.isAgg149
  z46 := Tryz.sizeOf149
  v46 := Tryz.zeroValue149
  t51 := Tryz.underlying182
  a51 := Tryz.isAgg182
  z51 := Tryz.sizeOf182
  v51 := Tryz.zeroValue182
  t53 := Tryz.underlying28
  a53 := Tryz.isAgg28
  z53 := Tryz.sizeOf28
  v53 := Tryz.zeroValue28
  t75 := Tryz.underlying214
  a75 := Tryz.isAgg214
  z75 := Tryz.sizeOf214
  v75 := Tryz.zeroValue214
  t127 := Tryz.underlying252
  a127 := Tryz.isAgg252
  z127 := Tryz.sizeOf252
  v127 := Tryz.zeroValue252
  t143 := Tryz.underlying282
  a143 := Tryz.isAgg282
  z143 := Tryz.sizeOf282
  v143 := Tryz.zeroValue282
  t145 := Tryz.underlying284
  a145 := Tryz.isAgg284
  z145 := Tryz.sizeOf284
  v145 := Tryz.zeroValue284
  t167 := Tryz.underlying258
  a167 := Tryz.isAgg258
  z167 := Tryz.sizeOf258
  v167 := Tryz.zeroValue258
  t168 := Tryz.underlying260
  a168 := Tryz.isAgg260
  z168 := Tryz.sizeOf260
  v168 := Tryz.zeroValue260
  t171 := Tryz.underlying244
  a171 := Tryz.isAgg244
  z171 := Tryz.sizeOf244
  v171 := Tryz.zeroValue244
  t173 := Tryz.underlying246
  a173 := Tryz.isAgg246
  z173 := Tryz.sizeOf246
  v173 := Tryz.zeroValue246
  t210 := Tryz.underlying279
  a210 := Tryz.isAgg279
  z210 := Tryz.sizeOf279
  v210 := Tryz.zeroValue279
  t212 := Tryz.underlying264
  a212 := Tryz.isAgg264
  z212 := Tryz.sizeOf264
  v212 := Tryz.zeroValue264
  t213 := Tryz.underlying265
  a213 := Tryz.isAgg265
  z213 := Tryz.sizeOf265
  t232 := Tryz.underlying285
  a232 := Tryz.isAgg285
  z232 := Tryz.sizeOf285
  v232 := Tryz.zeroValue285
  t233 := Tryz.underlying286
  a233 := Tryz.isAgg286
  z233 := Tryz.sizeOf286
  v233 := Tryz.zeroValue286
  g15 := by kernel_rfl
  g16 := by kernel_rfl
  g17 := by kernel_rfl
  g18 := by kernel_rfl
  g19 := by kernel_rfl
  t80 := Tryz.underlying202
  a80 := Tryz.isAgg202
  z80 := Tryz.sizeOf202
  v80 := Tryz.zeroValue202
  i0 := by kernel_rfl
  i2 := by kernel_rfl
  i3 := by kernel_rfl
  i4 := by kernel_rfl
  i5 := by kernel_rfl
  i9 := by kernel_rfl
  i20 := by kernel_rfl
  i37 := by kernel_rfl
  i46 := by kernel_rfl
  i51 := by kernel_rfl
  i53 := by kernel_rfl
  i75 := by kernel_rfl
  i80 := by kernel_rfl
  i127 := by kernel_rfl
  i143 := by kernel_rfl
  i145 := by kernel_rfl
  i167 := by kernel_rfl
  i168 := by kernel_rfl
  i171 := by kernel_rfl
  i173 := by kernel_rfl
  i210 := by kernel_rfl
  i212 := by kernel_rfl
  i232 := by kernel_rfl
  i233 := by kernel_rfl
  m15 := by kernel_rfl
  m16 := by kernel_rfl
  m17 := by kernel_rfl
  m18 := by kernel_rfl
  m19 := by kernel_rfl
  c0 := by kernel_rfl
  c2 := by kernel_rfl
  c3 := by kernel_rfl
  c4 := by kernel_rfl
  c5 := by kernel_rfl
  c9 := by kernel_rfl
  c20 := by kernel_rfl
  c37 := by kernel_rfl
  c46 := by kernel_rfl
  c51 := by kernel_rfl
  c53 := by kernel_rfl
  c75 := by kernel_rfl
  c80 := by kernel_rfl
  c127 := by kernel_rfl
  c143 := by kernel_rfl
  c145 := by kernel_rfl
  c167 := by kernel_rfl
  c168 := by kernel_rfl
  c171 := by kernel_rfl
  c173 := by kernel_rfl
  c210 := by kernel_rfl
  c212 := by kernel_rfl
  c213 := by kernel_rfl
  c232 := by kernel_rfl
  c233 := by kernel_rfl }
theorem Tryz.strconv_toError_syntax (fn s : ByteArray) (base bits : Int) (ev : Value) (w : World) (hlim : s.size ≤ 281474976710656) (hv : w.cell? ⟨4, 0, none⟩ = some ev) (hev : ev = .nilIface ∨ ∃ te pe, ev = .iface te pe) :
    Calls Tryz.prog 200 #[.string fn, .string s, .int .i64 base, .int .i64 bits, .iface 258 (.int .i64 2)] w fun e w' => ∃ N, e = .returned (.iface 260 (.pointer (some ⟨N, 0, none⟩))) ∧ w.heap.size ≤ N ∧ w'.heap[N]? = some (.cells #[.string fn, .string s, ev] 279 (0, 0)) ∧ Below w.heap.size w w' := Any.strconv_toError_syntax Tryz.laysC245 fn s base bits ev w hlim hv hev
def Tryz.lays321_ren : Go.Shelf.Ren := ⟨fun | 321 => 225 | n => n, fun | 5 => 5 | n => n, fun | n => n⟩
theorem Tryz.lays321 : Go.Proofs.Lays.n321 Tryz.prog Tryz.lays321_ren := {
  mixed := by kernel_rfl
  f321 := Tryz.func225.trans (congrArg some (by kernel_rfl))
  t5 := Tryz.underlying5
  a5 := Tryz.isAgg5
  z5 := Tryz.sizeOf5
  v5 := Tryz.zeroValue5 }
theorem Tryz.internal_strconv_lower (c : Int) (w : World) :
    Calls Tryz.prog 225 #[.int .u8 c] w fun e w' => e = .returned (.int .u8 (bits .or .u8 c 32)) ∧ w' = w := Any.internal_strconv_lower Tryz.lays321 c w
theorem Tryz.strconv_toError_range (fn s : ByteArray) (base bits : Int) (ev : Value) (w : World) (hlim : s.size ≤ 281474976710656) (hv : w.cell? ⟨5, 0, none⟩ = some ev) (hev : ev = .nilIface ∨ ∃ te pe, ev = .iface te pe) :
    Calls Tryz.prog 200 #[.string fn, .string s, .int .i64 base, .int .i64 bits, .iface 258 (.int .i64 1)] w fun e w' => ∃ N, e = .returned (.iface 260 (.pointer (some ⟨N, 0, none⟩))) ∧ w.heap.size ≤ N ∧ w'.heap[N]? = some (.cells #[.string fn, .string s, ev] 279 (0, 0)) ∧ Below w.heap.size w w' := Any.strconv_toError_range Tryz.laysC245 fn s base bits ev w hlim hv hev
def Tryz.lays105_ren : Go.Shelf.Ren := ⟨fun | 105 => 127 | 212 => 169 | 99 => 170 | 165 => 171 | 166 => 172 | 170 => 173 | 169 => 174 | 263 => 205 | 264 => 206 | 206 => 207 | 240 => 208 | 241 => 209 | 276 => 236 | 277 => 237 | n => n, fun | 9 => 9 | 3 => 3 | 4 => 4 | 20 => 20 | 0 => 0 | 46 => 149 | 109 => 217 | 5 => 5 | 72 => 222 | 76 => 223 | 51 => 182 | 146 => 248 | 53 => 28 | 148 => 250 | 70 => 220 | 37 => 147 | 75 => 214 | 127 => 252 | 164 => 268 | 80 => 202 | n => n, fun | n => n⟩
theorem Tryz.lays105 : Go.Proofs.Lays.n105 Tryz.prog Tryz.lays105_ren := {
  mixed := by kernel_rfl
  f99 := Tryz.func170.trans (congrArg some (by kernel_rfl))
  f105 := Tryz.func127.trans (congrArg some (by kernel_rfl))
  f165 := Tryz.func171.trans (congrArg some (by kernel_rfl))
  f166 := Tryz.func172.trans (congrArg some (by kernel_rfl))
  f169 := Tryz.func174.trans (congrArg some (by kernel_rfl))
  f170 := Tryz.func173.trans (congrArg some (by kernel_rfl))
  f206 := Tryz.func207.trans (congrArg some (by kernel_rfl))
  f212 := Tryz.func169.trans (congrArg some (by kernel_rfl))
  f240 := Tryz.func208.trans (congrArg some (by kernel_rfl))
  f241 := Tryz.func209.trans (congrArg some (by kernel_rfl))
  f263 := Tryz.func205.trans (congrArg some (by kernel_rfl))
  f264 := Tryz.func206.trans (congrArg some (by kernel_rfl))
  f276 := Tryz.func236.trans (congrArg some (by kernel_rfl))
  f277 := Tryz.func237.trans (congrArg some (by kernel_rfl))
  t0 := Tryz.underlying0
  a0 := Tryz.isAgg0
  z0 := Tryz.sizeOf0
  v0 := Tryz.zeroValue0
  t3 := Tryz.underlying3
  a3 := Tryz.isAgg3
  z3 := Tryz.sizeOf3
  v3 := Tryz.zeroValue3
  t4 := Tryz.underlying4
  a4 := Tryz.isAgg4
  z4 := Tryz.sizeOf4
  v4 := Tryz.zeroValue4
  t5 := Tryz.underlying5
  a5 := Tryz.isAgg5
  z5 := Tryz.sizeOf5
  v5 := Tryz.zeroValue5
  t9 := Tryz.underlying9
  a9 := Tryz.isAgg9
  z9 := Tryz.sizeOf9
  v9 := Tryz.zeroValue9
  t20 := Tryz.underlying20
  a20 := Tryz.isAgg20
  z20 := Tryz.sizeOf20
  v20 := Tryz.zeroValue20
  t37 := Tryz.underlying147
  a37 := Tryz.isAgg147
  z37 := Tryz.sizeOf147
  v37 := Tryz.zeroValue147
  t46 := Tryz.underlying149
  a46 := Tryz.isAgg149
  z46 := Tryz.sizeOf149
  v46 := Tryz.zeroValue149
  t51 := Tryz.underlying182
  a51 := Tryz.isAgg182
  z51 := Tryz.sizeOf182
  v51 := Tryz.zeroValue182
  t53 := Tryz.underlying28
  a53 := Tryz.isAgg28
  z53 := Tryz.sizeOf28
  v53 := Tryz.zeroValue28
  t70 := Tryz.underlying220
  a70 := Tryz.isAgg220
  z70 := Tryz.sizeOf220
  v70 := Tryz.zeroValue220
  t72 := Tryz.underlying222
  a72 := Tryz.isAgg222
  z72 := Tryz.sizeOf222
  v72 := Tryz.zeroValue222
  t75 := Tryz.underlying214
  a75 := Tryz.isAgg214
  z75 := Tryz.sizeOf214
  v75 := Tryz.zeroValue214
  t76 := Tryz.underlying223
  a76 := Tryz.isAgg223
  z76 := Tryz.sizeOf223
  v76 := Tryz.zeroValue223
  t109 := Tryz.underlying217
  a109 := Tryz.isAgg217
  z109 := Tryz.sizeOf217
  v109 := Tryz.zeroValue217
  t127 := Tryz.underlying252
  a127 := Tryz.isAgg252
  z127 := Tryz.sizeOf252
  v127 := Tryz.zeroValue252
  t146 := Tryz.underlying248
  a146 := Tryz.isAgg248
  z146 := Tryz.sizeOf248
  v146 := Tryz.zeroValue248
  t148 := Tryz.underlying250
  a148 := Tryz.isAgg250
  z148 := Tryz.sizeOf250
  v148 := Tryz.zeroValue250
  t164 := Tryz.underlying268
  a164 := Tryz.isAgg268
  z164 := Tryz.sizeOf268
  v164 := Tryz.zeroValue268 }
theorem Tryz.Builder_Extra_105 : Builder.Extra Tryz.prog Tryz.lays105_ren := {
  sizeBuilder := by kernel_rfl
  liesBuilder := by kernel_rfl
  t5 := Tryz.underlying5
  a5 := Tryz.isAgg5
  z5 := Tryz.sizeOf5
  v5 := Tryz.zeroValue5
  infoByte := by kernel_rfl
  cellsByte := by kernel_rfl
  sizeByte := by kernel_rfl
  neB5 := by decide }
theorem Tryz.strings_Repeat (s : ByteArray) (c : Nat) (w : World) (hc : c ≤ 9223372036854775807) (hlen : s.size * c ≤ 140737488355328) :
    Calls Tryz.prog 127 #[.string s, .int .i64 c] w fun e w' => e = .returned (.string ⟨(Lib.repeatL s.data.toList c).toArray⟩) ∧ Below w.heap.size w w' := Any.strings_Repeat Tryz.lays105 Tryz.Builder_Extra_105 s c w hc hlen
end Go.Proofs
namespace Go.Proofs.YtanonhipicoigaaGreatDoor.U
open Go.RowKit Go.Proofs.YtanonhipicoigaaGreatDoorW.PrintWords Go.Proofs.YtanonhipicoigaaGreatDoorW.PrintLast Go.Proofs.YtanonhipicoigaaGreatDoorW.PrintMore Go.Proofs.YtanonhipicoigaaGreatDoor.Sp Go.Proofs.YtanonhipicoigaaGreatDoor.SegP
set_option linter.unusedVariables false
set_option linter.unusedSimpArgs false
/-- What the library's variables hold, as they are laid. -/
structure Gl (w : World) : Prop where
  tz : w.cell? ⟨7, 15, none⟩ = some (.int .u8 4)
  syn : ∃ ev, w.cell? ⟨4, 0, none⟩ = some ev ∧ (ev = .nilIface ∨ ∃ te pe, ev = .iface te pe)
  rng : ∃ ev, w.cell? ⟨5, 0, none⟩ = some ev ∧ (ev = .nilIface ∨ ∃ te pe, ev = .iface te pe)
theorem Gl.below {w w' : World} (h : Gl w) (hb : Below w.heap.size w w') : Gl w' := by
  obtain ⟨e1, g1, g2⟩ := h.syn
  obtain ⟨e2, g3, g4⟩ := h.rng
  exact ⟨(hb.cell (World.block_lt_of_cell? _ _ h.tz)).trans h.tz, ⟨e1, (hb.cell (World.block_lt_of_cell? _ _ g1)).trans g1, g2⟩, ⟨e2, (hb.cell (World.block_lt_of_cell? _ _ g3)).trans g3, g4⟩⟩
theorem hexN_pad : ∀ (k m n : Nat), n < 16 ^ m → hexN (k + m) n = List.replicate k 48 ++ hexN m n
  | 0, m, n, h => by simp
  | k + 1, m, n, h => by
    have h2 : n < 16 ^ (k + m) := Nat.lt_of_lt_of_le h (Nat.pow_le_pow_right (by decide) (by omega))
    rw [show k + 1 + m = (k + m) + 1 by omega, hexN, Nat.div_eq_of_lt h2, Nat.mod_eq_of_lt h2, hexN_pad k m n h]
    rfl
theorem repeat48 : ∀ c, Lib.repeatL [48] c = List.replicate c 48
  | 0 => rfl
  | c + 1 => by rw [Lib.repeatL, repeat48 c]; rfl
theorem name_any (n : Nat) (w : World) (hn : n < 18446744073709551616) (hG : Gl w) :
    Calls Tryz.prog 81 #[.int .u64 (n : Int)] w fun e w' => ∃ s, e = .returned (.string s) ∧ Below w.heap.size w w' ∧ byt s = hexN 16 n := by
  have F := Aside0.mk (formatUint_any n w hn hG.tz)
  obtain ⟨ni, hni⟩ : ∃ ni : Int, ni = (n : Int) := ⟨_, rfl⟩
  rw [← hni] at F ⊢
  clear hni hn
  go_enter Tryz.func81, Tryz.ntmps81
  go_wp2_with fail
  refine F.out.mono ?_
  rintro e w1 ⟨s, c, rfl, h1, h2, h3, h4⟩
  have hs : s.size = c + 1 := by rw [← byt_length, h4, hexN_length]
  have HS := Aside0.mk hs
  have HB := Aside0.mk h1
  have H3 := Aside0.mk h3
  have H4 := Aside0.mk h4
  have hw : wrap64 (16 - (s.size : Int)) = ((15 - c : Nat) : Int) := by
    rw [hs]
    unfold wrap64
    omega
  have hw2 : 16 - (s.size : Int) = ((15 - c : Nat) : Int) := by
    rw [hs]
    omega
  clear h1 h3 h4 hs
  obtain ⟨k, hk⟩ : ∃ k, k = 15 - c := ⟨_, rfl⟩
  rw [← hk] at hw hw2
  have HK := Aside0.mk hk
  have hk15 : k ≤ 15 := by omega
  clear hk
  go_wp2_with fail
  refine ((Tryz.strings_Repeat ⟨#[48]⟩ k _ (by omega) (by simp [ByteArray.size]; omega)).mono ?_)
  rintro e w2 ⟨rfl, hb⟩
  have HB2 := Aside0.mk (HB.out.trans (hb.mono HB.out.size))
  clear hb
  obtain ⟨z, hz⟩ : ∃ z : ByteArray, z = ⟨(Lib.repeatL (⟨#[48]⟩ : ByteArray).data.toList k).toArray⟩ := ⟨_, rfl⟩
  rw [← hz]
  have HZ := Aside0.mk (show byt z = List.replicate k 48 by rw [hz]; exact (byt_mk _).trans (repeat48 k))
  have hz2 : z.size + s.size ≤ 9223372036854775807 := by
    rw [HS.out, ← byt_length, HZ.out, List.length_replicate]
    omega
  clear hz
  go_wp2
  go_ret
  refine ⟨_, rfl, HB2.out, ?_⟩
  have hk := HK.out
  rw [byt_append, HZ.out, H4.out, ← hexN_pad k (c + 1) n H3.out, show k + (c + 1) = 16 by omega]
end Go.Proofs.YtanonhipicoigaaGreatDoor.U
namespace Go.Proofs.YtanonhipicoigaaGreatDoor.U
open Go.RowKit Go.Proofs.YtanonhipicoigaaGreatDoorW.PrintWords Go.Proofs.YtanonhipicoigaaGreatDoorW.PrintLast Go.Proofs.YtanonhipicoigaaGreatDoorW.PrintMore Go.Proofs.YtanonhipicoigaaGreatDoor.Sp Go.Proofs.YtanonhipicoigaaGreatDoor.SegP
set_option linter.unusedVariables false
set_option linter.unusedSimpArgs false
/-- A digit's worth, of any case. -/
def dgI (b : Int) : Option Int := if 48 ≤ b ∧ b ≤ 57 then some (b - 48) else if 97 ≤ bits .or .u8 b 32 ∧ bits .or .u8 b 32 ≤ 122 then some (bits .or .u8 b 32 - 87) else none
/-- What the parser comes to, of what is left: a number, or its failure's number. -/
def p16 : List Int → Int → Except Int Int
  | [], a => .ok a
  | b :: r, a => match dgI b with
    | none => .error 2
    | some d => if 16 ≤ d then .error 2 else if 1152921504606846976 ≤ a then .error 1 else p16 r (a * 16 + d)
def pRes : Except Int Int → Value × Value
  | .ok v => (.int .u64 v, .nilIface)
  | .error 1 => (.int .u64 18446744073709551615, .iface 258 (.int .i64 1))
  | .error _ => (.int .u64 0, .iface 258 (.int .i64 2))
def pAll (s : ByteArray) : Except Int Int := if s.toList = [] then .error 2 else p16 (bytesOf s) 0
theorem bits_u8 (op : BinOp) (x y : Int) : 0 ≤ bits op .u8 x y ∧ bits op .u8 x y ≤ 255 := by
  have h := wf_bits op .u8 x y
  simp only [Lit.wf, Bool.and_eq_true, decide_eq_true_eq] at h
  exact ⟨h.1, h.2⟩
theorem bytes_drop {s : ByteArray} {i : Nat} (h : i < s.size) : (bytesOf s).drop i = bt s (i : Int) :: (bytesOf s).drop (i + 1) := by
  have hl : i < (bytesOf s).length := by rw [bytesOf_length]; exact h
  rw [List.drop_eq_getElem_cons hl, ← rd_bytesOf]
  congr 1
  simp [rd, List.getD, hl]
set_option maxHeartbeats 8000000 in
set_option maxRecDepth 100000 in
theorem iparse_any (s : ByteArray) (w : World) (hs : s.size ≤ 9223372036854775807) :
    Calls Tryz.prog 199 #[.string s, .int .i64 16, .int .i64 64] w fun e w' => e = .returned (.tuple #[(pRes (pAll s)).1, (pRes (pAll s)).2]) ∧ Below w.heap.size w w' := by
  have kb := fun W => print_bytes (P := Tryz.prog) 9 147 5 Tryz.underlying9 Tryz.underlying147 Tryz.underlying5 s W
  obtain ⟨R, hR⟩ : ∃ R, R = pAll s := ⟨_, rfl⟩
  rw [← hR]
  have HR0 := Aside0.mk hR
  clear hR
  cases hse : (s.toList == ([] : List UInt8))
  · have hp : R = p16 (bytesOf s) 0 := by rw [HR0.out, pAll, if_neg (beq_eq_false_iff_ne.1 hse)]
    have HP := Aside0.mk hp
    clear hp
    have hmx : IntKind.u64.wrap (IntKind.u64.wrap 18446744073709551616 - 1) = 18446744073709551615 := by decide +kernel
    go_enter Tryz.func199, Tryz.ntmps199
    go_wp2_with fail
    have HR := Aside0.mk (bytes_reads w 5 s (by omega))
    have HB := Aside0.mk (bytes_below (Below.refl w.heap.size w) (Nat.le_refl _) 5 s)
    go_loopw [12, 13, 101] (fun v12 v13 v101 wr => ∃ (i : Nat) (acc : Int), v12 = .bool false ∧ v13 = .int .u64 acc ∧ v101 = .int .i64 (i : Int) ∧ i ≤ s.size ∧ 0 ≤ acc ∧ acc ≤ 18446744073709551615 ∧ Aside0 (R = p16 ((bytesOf s).drop i) acc) ∧ Aside0 (ReadsInt wr .u8 (some ⟨w.heap.size, 0, none⟩) s.size (bytesOf s)) ∧ Aside0 (Below w.heap.size w wr))
      (fun _ _ v101 _ => s.size - (intOf v101).toNat)
    case atStart => exact ⟨0, 0, rfl, rfl, rfl, by omega, by omega, by omega, HP, HR, HB⟩
    case round =>
      clear HR HB HP
      obtain ⟨i, acc, rfl, rfl, rfl, hi, ha0, ha1, HP, HR, HB⟩ := hrel
      by_cases hlt : i < s.size
      · obtain ⟨ad, he, hc⟩ := HR.out.at_ (i : Int) (by omega) (by omega)
        injection he with he
        subst he
        rw [add_plain] at hc
        simp only [Int.toNat_natCast, rd_bytesOf] at hc
        have hp := HP.out
        rw [bytes_drop hlt, p16] at hp
        have hbr := bt_range s (i : Int)
        obtain ⟨b, hb⟩ : ∃ b, b = bt s (i : Int) := ⟨_, rfl⟩
        rw [← hb] at hc hp hbr
        clear hb HP
        obtain ⟨hb0, hb1⟩ := hbr
        have h0 : (0 : Int) ≤ (i : Int) := by omega
        have h1 : (i : Int) < (s.size : Int) := by omega
        obtain ⟨L, hL⟩ : ∃ L, L = bits .or .u8 b 32 := ⟨_, rfl⟩
        have hL0 : 0 ≤ L ∧ L ≤ 255 := by rw [hL]; exact bits_u8 _ _ _
        obtain ⟨hL0, hL1⟩ := hL0
        have LW := Aside0.mk (fun w => hL ▸ Tryz.internal_strconv_lower b w)
        rw [dgI, ← hL] at hp
        clear hL
        have HRR := Aside0.mk hp
        clear hp
        by_cases hd : 48 ≤ b ∧ b ≤ 57
        · have hq : R = (if 16 ≤ b - 48 then .error 2 else if 1152921504606846976 ≤ acc then .error 1 else p16 ((bytesOf s).drop (i + 1)) (acc * 16 + (b - 48))) := by
            rw [HRR.out, if_pos hd]
          rw [if_neg (by omega)] at hq
          obtain ⟨hd0, hd1⟩ := hd
          clear HRR
          by_cases hbig : 1152921504606846976 ≤ acc
          · rw [if_pos hbig] at hq
            subst hq
            go_wp2
            go_ret2
            exact ⟨rfl, HB.out⟩
          · rw [if_neg hbig] at hq
            have HQ := Aside0.mk hq
            clear hq
            go_wp2
            refine ⟨⟨i + 1, acc * 16 + (b - 48), rfl, rfl, by congr 1, by omega, by omega, by omega, HQ, HR, HB⟩, by simp [intOf]; omega⟩
        · by_cases hl : 97 ≤ L ∧ L ≤ 122
          · have hq : R = (if 16 ≤ L - 87 then .error 2 else if 1152921504606846976 ≤ acc then .error 1 else p16 ((bytesOf s).drop (i + 1)) (acc * 16 + (L - 87))) := by
              rw [HRR.out, if_neg hd, if_pos hl]
            clear HRR
            obtain ⟨hl0, hl1⟩ := hl
            have hdd : ¬ 48 ≤ b ∨ (48 ≤ b ∧ ¬ b ≤ 57) := by omega
            by_cases hx : 16 ≤ L - 87
            · rw [if_pos hx] at hq
              subst hq
              cases hb95 : (b == 95) <;> rcases hdd with hd1 | ⟨hd1, hd2⟩
              all_goals
                clear hd
                go_wp2_with (go_at_call 225; refine (LW.out _).mono ?_; rintro e w' ⟨rfl, rfl⟩)
                go_ret2
                exact ⟨rfl, HB.out⟩
            · rw [if_neg hx] at hq
              by_cases hbig : 1152921504606846976 ≤ acc
              · rw [if_pos hbig] at hq
                subst hq
                cases hb95 : (b == 95) <;> rcases hdd with hd1 | ⟨hd1, hd2⟩
                all_goals
                  clear hd
                  go_wp2_with (go_at_call 225; refine (LW.out _).mono ?_; rintro e w' ⟨rfl, rfl⟩)
                  go_ret2
                  exact ⟨rfl, HB.out⟩
              · rw [if_neg hbig] at hq
                have HQ := Aside0.mk hq
                clear hq
                cases hb95 : (b == 95) <;> rcases hdd with hd1 | ⟨hd1, hd2⟩
                all_goals
                  clear hd
                  go_wp2_with (go_at_call 225; refine (LW.out _).mono ?_; rintro e w' ⟨rfl, rfl⟩)
                  refine ⟨⟨i + 1, acc * 16 + (L - 87), rfl, by congr 1; omega, by congr 1, by omega, by omega, by omega, HQ, HR, HB⟩, by simp [intOf]; omega⟩
          · have hq : R = .error 2 := by rw [HRR.out, if_neg hd, if_neg hl]
            clear HRR
            subst hq
            have hdd : ¬ 48 ≤ b ∨ (48 ≤ b ∧ ¬ b ≤ 57) := by omega
            have hll : ¬ 97 ≤ L ∨ (97 ≤ L ∧ ¬ L ≤ 122) := by omega
            clear hd hl
            cases hb95 : (b == 95) <;> rcases hdd with hd1 | ⟨hd1, hd2⟩ <;> rcases hll with hl1 | ⟨hl1, hl2⟩
            all_goals
              go_wp2_with (go_at_call 225; refine (LW.out _).mono ?_; rintro e w' ⟨rfl, rfl⟩)
              go_ret2
              exact ⟨rfl, HB.out⟩
      · have hq : R = .ok acc := by
          rw [HP.out, List.drop_eq_nil_of_le (by rw [bytesOf_length]; omega)]
          rfl
        subst hq
        go_wp2
        go_ret2
        exact ⟨rfl, HB.out⟩
  · have hp : R = .error 2 := by rw [HR0.out, pAll, if_pos (beq_iff_eq.1 hse)]
    subst hp
    go_enter Tryz.func199, Tryz.ntmps199
    go_wp2
    go_ret2
    exact ⟨rfl, Below.refl _ _⟩
theorem dg_hex : ∀ d : Nat, d < 16 → dgI ((hexd d).toNat : Int) = some (d : Int) := by
  intro d hd
  rcases d with _ | _ | _ | _ | _ | _ | _ | _ | _ | _ | _ | _ | _ | _ | _ | _ | d
  all_goals first | (decide +kernel) | omega
theorem p16_hex : ∀ (k n acc : Nat), n < 16 ^ k → acc * 16 ^ k + n < 18446744073709551616 → p16 ((hexN k n).map fun b => (b.toNat : Int)) (acc : Int) = .ok ((acc * 16 ^ k + n : Nat) : Int)
  | 0, n, acc, h, h2 => by
    have : n = 0 := by simpa using h
    subst this
    simp [hexN, p16]
  | k + 1, n, acc, h, h2 => by
    have hp : 0 < 16 ^ k := Nat.pow_pos (by decide)
    have hd : n / 16 ^ k < 16 := by
      rw [Nat.div_lt_iff_lt_mul hp]
      rw [Nat.pow_succ, Nat.mul_comm] at h
      exact h
    have hm := Nat.div_add_mod n (16 ^ k)
    have hr := Nat.mod_lt n hp
    have e16 : acc * 16 ^ (k + 1) = acc * 16 * 16 ^ k := by rw [Nat.pow_succ, Nat.mul_assoc, Nat.mul_comm (16 ^ k) 16]
    rw [e16] at h2
    have ha : acc < 1152921504606846976 := by
      have h3 : acc * 16 * 1 ≤ acc * 16 * 16 ^ k := Nat.mul_le_mul_left _ hp
      omega
    have hsum : (acc * 16 + n / 16 ^ k) * 16 ^ k + n % 16 ^ k = acc * 16 * 16 ^ k + n := by
      rw [Nat.add_mul, Nat.add_assoc, Nat.mul_comm (n / 16 ^ k)]
      omega
    have ih := p16_hex k (n % 16 ^ k) (acc * 16 + n / 16 ^ k) hr (by rw [hsum]; exact h2)
    rw [hsum] at ih
    rw [hexN, List.map_cons, p16, dg_hex _ (Nat.mod_lt _ (by decide)), Nat.mod_eq_of_lt hd]
    simp only
    rw [if_neg (by omega), if_neg (by omega), e16]
    have ec : ((acc : Int) * 16 + ((n / 16 ^ k : Nat) : Int)) = ((acc * 16 + n / 16 ^ k : Nat) : Int) := by
      rw [Int.natCast_add, Int.natCast_mul]
      rfl
    rw [ec]
    exact ih
theorem parse_hex {s : ByteArray} {n : Nat} (h : hexN 16 n = byt s) (hn : n < 18446744073709551616) : pAll s = .ok (n : Int) := by
  have hne : ¬ s.toList = [] := by
    intro e
    rw [ByteArray.toList_eq] at e
    have h2 : byt s = [] := e
    rw [h2] at h
    have := congrArg List.length h
    rw [hexN_length] at this
    cases this
  rw [pAll, if_neg hne]
  have e : bytesOf s = (hexN 16 n).map fun b => (b.toNat : Int) := by rw [h]; rfl
  have := p16_hex 16 n 0 (by have : (16 : Nat) ^ 16 = 18446744073709551616 := by decide
                             omega) (by omega)
  rw [e]
  simpa using this
theorem pRes_err {s : ByteArray} {k : Int} (h : pAll s = .error k) : k = 1 ∨ k = 2 := by
  have key : ∀ (l : List Int) (a : Int), p16 l a = .error k → k = 1 ∨ k = 2 := by
    intro l
    induction l with
    | nil => intro a h; simp [p16] at h
    | cons b r ih =>
      intro a h
      rw [p16] at h
      split at h
      · injection h with h
        exact .inr h.symm
      · split at h
        · injection h with h
          exact .inr h.symm
        · split at h
          · injection h with h
            exact .inl h.symm
          · exact ih _ h
  rw [pAll] at h
  split at h
  · injection h with h
    exact .inr h.symm
  · exact key _ _ h
theorem p16_range : ∀ (l : List Int) (a v : Int), 0 ≤ a → a ≤ 18446744073709551615 → (∀ b ∈ l, 0 ≤ b ∧ b ≤ 255) → p16 l a = .ok v → 0 ≤ v ∧ v ≤ 18446744073709551615
  | [], a, v, h0, h1, hb, h => by
    simp only [p16, Except.ok.injEq] at h
    omega
  | b :: r, a, v, h0, h1, hb, h => by
    rw [p16] at h
    split at h
    · cases h
    · rename_i d hd
      split at h
      · cases h
      · split at h
        · cases h
        · have hd0 : 0 ≤ d := by
            rw [dgI] at hd
            split at hd
            · injection hd with hd
              omega
            · split at hd
              · injection hd with hd
                omega
              · cases hd
          exact p16_range r _ v (by omega) (by omega) (fun x hx => hb x (by simp [hx])) h
theorem parse_range {s : ByteArray} {v : Int} (h : pAll s = .ok v) : 0 ≤ v ∧ v ≤ 18446744073709551615 := by
  rw [pAll] at h
  split at h
  · cases h
  · refine p16_range _ 0 v (by omega) (by omega) (fun b hb => ?_) h
    simp only [bytesOf, List.mem_map] at hb
    obtain ⟨c, _, rfl⟩ := hb
    have := c.toNat_lt
    omega
set_option maxHeartbeats 4000000 in
theorem parse_any (s : ByteArray) (w : World) (hs : s.size ≤ 65536) (hG : Gl w) :
    Calls Tryz.prog 165 #[.string s, .int .i64 16, .int .i64 64] w fun e w' => ∃ v x, e = .returned (.tuple #[.int .u64 v, x]) ∧ (∀ n, pAll s = .ok n → v = n ∧ x = .nilIface) ∧ (∀ k, pAll s = .error k → ∃ t y, x = .iface t y) ∧ Below w.heap.size w w' := by
  have IP := Aside0.mk (iparse_any s w (by omega))
  obtain ⟨e1, g1, g2⟩ := hG.syn
  obtain ⟨e2, g3, g4⟩ := hG.rng
  cases hp : pAll s with
  | ok n =>
    have HP := Aside0.mk (show (pRes (pAll s)).1 = .int .u64 n ∧ (pRes (pAll s)).2 = .nilIface by rw [hp]; exact ⟨rfl, rfl⟩)
    go_enter Tryz.func165, Tryz.ntmps165
    go_wp2_with fail
    refine IP.out.mono ?_
    rintro e w1 ⟨rfl, hb⟩
    have HB := Aside0.mk hb
    clear hb
    rw [HP.out.1, HP.out.2]
    go_wp2
    go_ret2
    exact ⟨_, _, rfl, (fun m h => by cases h; exact ⟨rfl, rfl⟩), (fun k h => by cases h), HB.out⟩
  | error k =>
    rcases pRes_err hp with rfl | rfl
    · have HP := Aside0.mk (show (pRes (pAll s)).1 = .int .u64 18446744073709551615 ∧ (pRes (pAll s)).2 = .iface 258 (.int .i64 1) by rw [hp]; exact ⟨rfl, rfl⟩)
      go_enter Tryz.func165, Tryz.ntmps165
      go_wp2_with fail
      refine IP.out.mono ?_
      rintro e w1 ⟨rfl, hb⟩
      have HB := Aside0.mk hb
      clear hb
      rw [HP.out.1, HP.out.2]
      go_wp2_with fail
      refine (Tryz.strconv_toError_range _ s 16 64 e2 _ (by omega) ((HB.out.cell (World.block_lt_of_cell? _ _ g3)).trans g3) g4).mono ?_
      rintro e w2 ⟨NN, rfl, _, _, hb⟩
      have HB2 := Aside0.mk (HB.out.trans (hb.mono HB.out.size))
      clear hb
      go_wp2
      go_ret2
      exact ⟨_, _, rfl, (fun m h => by cases h), (fun k h => ⟨_, _, rfl⟩), HB2.out⟩
    · have HP := Aside0.mk (show (pRes (pAll s)).1 = .int .u64 0 ∧ (pRes (pAll s)).2 = .iface 258 (.int .i64 2) by rw [hp]; exact ⟨rfl, rfl⟩)
      go_enter Tryz.func165, Tryz.ntmps165
      go_wp2_with fail
      refine IP.out.mono ?_
      rintro e w1 ⟨rfl, hb⟩
      have HB := Aside0.mk hb
      clear hb
      rw [HP.out.1, HP.out.2]
      go_wp2_with fail
      refine (Tryz.strconv_toError_syntax _ s 16 64 e1 _ (by omega) ((HB.out.cell (World.block_lt_of_cell? _ _ g1)).trans g1) g2).mono ?_
      rintro e w2 ⟨NN, rfl, _, _, hb⟩
      have HB2 := Aside0.mk (HB.out.trans (hb.mono HB.out.size))
      clear hb
      go_wp2
      go_ret2
      exact ⟨_, _, rfl, (fun m h => by cases h), (fun k h => ⟨_, _, rfl⟩), HB2.out⟩
end Go.Proofs.YtanonhipicoigaaGreatDoor.U
namespace Go.Proofs.YtanonhipicoigaaGreatDoor.U
open Go.RowKit Go.Proofs.YtanonhipicoigaaGreatDoorW.PrintWords Go.Proofs.YtanonhipicoigaaGreatDoorW.PrintLast Go.Proofs.YtanonhipicoigaaGreatDoorW.PrintMore Go.Proofs.YtanonhipicoigaaGreatDoor.Sp Go.Proofs.YtanonhipicoigaaGreatDoor.SegP
set_option linter.unusedVariables false
set_option linter.unusedSimpArgs false
theorem most_lt : most = 4611686018427387904 := rfl
theorem toList_byt {a b : ByteArray} : (a.toList == b.toList) = true ↔ byt a = byt b := by
  rw [beq_iff_eq, ByteArray.toList_eq, ByteArray.toList_eq]
  exact Iff.rfl
set_option maxHeartbeats 4000000 in
set_option maxRecDepth 100000 in
theorem number_any (s : ByteArray) (w : World) (hs : s.size ≤ 65536) (hG : Gl w) :
    Calls Tryz.prog 123 #[.string s] w fun e w' => ∃ v, e = .returned (.tuple #[.int .u64 v, .bool (numOf s).isSome]) ∧ (∀ n, numOf s = some n → v = (n : Int)) ∧ Below w.heap.size w w' := by
  have PA := Aside0.mk (parse_any s w hs hG)
  have HG := Aside0.mk hG
  cases hp : pAll s with
  | error k =>
    have hnone : numOf s = none := by
      cases h : numOf s with
      | none => rfl
      | some n =>
        obtain ⟨h1, h2⟩ := numOf_iff.1 h
        rw [parse_hex h2 (by have := most_lt; omega)] at hp
        cases hp
    have HP := Aside0.mk hp
    clear hp hG
    rw [hnone]
    go_enter Tryz.func123, Tryz.ntmps123
    go_wp2_with fail
    refine PA.out.mono ?_
    rintro e w1 ⟨v, x, rfl, h1, h2, hb⟩
    obtain ⟨t, y, rfl⟩ := h2 k HP.out
    clear h1 h2
    have HB := Aside0.mk hb
    clear hb
    go_wp2
    go_ret2
    exact ⟨v, rfl, (fun n h => by cases h), HB.out⟩
  | ok m =>
    obtain ⟨hm0, hm1⟩ := parse_range hp
    obtain ⟨n, rfl⟩ := Int.eq_ofNat_of_zero_le hm0
    have HP := Aside0.mk hp
    have hn64 : n < 18446744073709551616 := by omega
    by_cases hm : n ≤ most
    · have NA := Aside0.mk (fun w (h : Gl w) => name_any n w hn64 h)
      have hmi : (n : Int) ≤ 4611686018427387904 := by
        rw [most_lt] at hm
        omega
      obtain ⟨ni, hni⟩ : ∃ ni : Int, ni = (n : Int) := ⟨_, rfl⟩
      rw [← hni] at NA HP hmi
      have HNI := Aside0.mk hni
      have HM := Aside0.mk hm
      clear hm0 hm1 hp hn64 hni hm hG
      obtain ⟨ok, hok⟩ : ∃ ok, ok = (numOf s).isSome := ⟨_, rfl⟩
      rw [← hok]
      have HOK := Aside0.mk hok
      clear hok
      go_enter Tryz.func123, Tryz.ntmps123
      go_wp2_with fail
      refine PA.out.mono ?_
      rintro e w1 ⟨v, x, rfl, h1, h2, hb⟩
      obtain ⟨rfl, rfl⟩ := h1 ni HP.out
      clear h1 h2
      have HB := Aside0.mk hb
      clear hb
      go_wp2_with fail
      refine (NA.out _ (HG.out.below HB.out)).mono ?_
      rintro e w2 ⟨z, rfl, hb, hz⟩
      have HB2 := Aside0.mk (HB.out.trans (hb.mono HB.out.size))
      have HZ := Aside0.mk hz
      clear hb hz
      cases hq : (z.toList == s.toList)
      · have hnone : numOf s = none := by
          cases h : numOf s with
          | none => rfl
          | some k =>
            exfalso
            obtain ⟨h1, h2⟩ := numOf_iff.1 h
            have h3 := HP.out
            rw [parse_hex h2 (by have := most_lt; omega)] at h3
            injection h3 with h3
            rw [HNI.out] at h3
            have : k = n := by omega
            rw [this, ← HZ.out, ← toList_byt] at h2
            rw [h2] at hq
            cases hq
        have HNN := Aside0.mk hnone
        obtain rfl : ok = false := by rw [HOK.out, hnone]; rfl
        clear hnone
        go_wp2
        go_ret2
        exact ⟨_, rfl, (fun k h => by rw [HNN.out] at h; cases h), HB2.out⟩
      · have hsome : numOf s = some n := numOf_iff.2 ⟨HM.out, by rw [← HZ.out]; exact toList_byt.1 hq⟩
        have HNN := Aside0.mk hsome
        obtain rfl : ok = true := by rw [HOK.out, hsome]; rfl
        clear hsome
        go_wp2
        go_ret2
        exact ⟨_, rfl, (fun k h => by rw [HNN.out] at h; injection h with h; rw [HNI.out, h]), HB2.out⟩
    · have hnone : numOf s = none := by
        cases h : numOf s with
        | none => rfl
        | some k =>
          exfalso
          obtain ⟨h1, h2⟩ := numOf_iff.1 h
          have h3 := HP.out
          rw [parse_hex h2 (by have := most_lt; omega)] at h3
          injection h3 with h3
          have : k = n := by omega
          omega
      have hmi : (4611686018427387904 : Int) < (n : Int) := by
        rw [most_lt] at hm
        omega
      obtain ⟨ni, hni⟩ : ∃ ni : Int, ni = (n : Int) := ⟨_, rfl⟩
      rw [← hni] at HP hmi
      clear hm0 hm1 hp hn64 hni hm hG
      rw [hnone]
      have hmb : decide (ni ≤ 4611686018427387904) = false := decide_eq_false (Int.not_le.2 hmi)
      clear hmi hnone
      go_enter Tryz.func123, Tryz.ntmps123
      go_wp2_with fail
      refine PA.out.mono ?_
      rintro e w1 ⟨v, x, rfl, h1, h2, hb⟩
      obtain ⟨rfl, rfl⟩ := h1 ni HP.out
      clear h1 h2
      have HB := Aside0.mk hb
      clear hb
      go_wp2
      go_ret2
      exact ⟨_, rfl, (fun k h => by cases h), HB.out⟩
end Go.Proofs.YtanonhipicoigaaGreatDoor.U
namespace Go.Proofs.YtanonhipicoigaaGreatDoor.U
open Go.RowKit Go.Proofs.YtanonhipicoigaaGreatDoorW.PrintWords Go.Proofs.YtanonhipicoigaaGreatDoorW.PrintLast Go.Proofs.YtanonhipicoigaaGreatDoorW.PrintMore Go.Proofs.YtanonhipicoigaaGreatDoor.Sp
set_option linter.unusedVariables false
set_option linter.unusedSimpArgs false
theorem k67_flat {W : World} {ok1 ok2 : Nat → Prop} {x : S67} {cs : List Value} (h : k67.M W 0 ok1 x cs) : k67.M W 0 ok2 x cs := by
  obtain rfl := k67_openM h
  exact k67_mkM _ _ _ _
theorem at67 {W : World} {ad : Addr} {n i : Nat} {l : List S67} {x : S67} (h : Kd.C k67 W (some ad) n l) (hx : l[i]? = some x) :
    W.cell? (ad.add (i * 3)) = some (.string x.f0) ∧ W.cell? ⟨(ad.add (i * 3)).block, (ad.add (i * 3)).off + 1, none⟩ = some (.string x.f1) ∧ W.cell? ⟨(ad.add (i * 3)).block, (ad.add (i * 3)).off + 2, none⟩ = some (.int .i64 x.f2) := by
  have hi := (List.getElem?_eq_some_iff.1 hx).1
  obtain ⟨ad2, e, h0, h1, h2⟩ := at_T67 h (i : Int) (by omega) (by have := h.1; omega)
  injection e with e
  subst e
  rw [rd_get hx] at h0 h1 h2
  simp only [Int.toNat_natCast] at h0 h1 h2
  exact ⟨h0, h1, h2⟩
end Go.Proofs.YtanonhipicoigaaGreatDoor.U
